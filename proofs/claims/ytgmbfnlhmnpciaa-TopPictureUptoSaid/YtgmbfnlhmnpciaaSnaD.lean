/- snap.picture. -/
import Derived.Test.YtgmbfnlhmnpciaaSnaC
namespace Go.Proofs.Ytgmbfnlhmnpciaa
open Go.Ex
set_option maxRecDepth 100000
def mx (x:Int):Int:=if x<0 then 0 else x
def undF (u:Int) (w:List Int):Nat→Int
  | 0=>u
  | k+1=>undF u w k+mx (w.getD k 0)
def rowS (r:List LaneD) (p:Nat) (s:Bool×Int):Nat→List Int×Bool×Int
  | 0=>([],s.1,s.2)
  | j+1=>((rowS r p s j).1++[(r.getD j l0).2.2.1],(rowS r p s j).2.1 && (decide (p=j) || (r.getD j l0).2.1),undF (rowS r p s j).2.2 (r.getD j l0).1 (r.getD j l0).1.length)
def picS (L:List (List LaneD)) (w:Bool):Nat→List (List Int)×Bool×Int
  | 0=>([],w,0)
  | i+1=>((picS L w i).1++[(rowS (L.getD i []) i (picS L w i).2 (L.getD i []).length).1],(rowS (L.getD i []) i (picS L w i).2 (L.getD i []).length).2)
abbrev PicD:=List Int×List (List Int)×Bool×List Int×Int×Unit
def picF (g:GameD):PicD:=(g.2.1,(picS g.2.2.2.1 (!decide (false∈g.2.2.1)) g.2.2.2.1.length).1,(picS g.2.2.2.1 (!decide (false∈g.2.2.1)) g.2.2.2.1.length).2.1,g.1,(picS g.2.2.2.1 (!decide (false∈g.2.2.1)) g.2.2.2.1.length).2.2,())
def cpic:Ctr:={ ps:=[.rd GameS],rs:=[PictS],pre:=fun x=>∃ n,n≤6∧Sized n x.1∧Small x.1,fn:=fun x=>(picF x.1,()),out:=fun _=>() }
def cidxB:Ctr:={ ps:=[.v (.slc false .bool),.v .bool],rs:=[I64],pre:=fun _=>True,fn:=fun x=>(idxOf (fun y=>decide ((show Bool from x.2.1)=y)) x.1,()),out:=fun _=>() }
noncomputable def EidxB:Env:={ P:=Try.prog,tt:=tt,ctr:=[],res:=[Go.ResultVar.tmp 4],rs:=[Ty.int IntKind.i64],ps:=[PK.v (Ty.slc false Ty.bool),PK.v Ty.bool],cuts:=[(2,[(0,none),(1,none),(7,none),(8,none)])],nt:=19 }
theorem EidxB_ok:EnvOk EidxB:=envOk tt_ok trivial
theorem FidxB_ok:FnOk EidxB Try.f58:=⟨rfl,rfl⟩
theorem EidxB_t (x0:List Bool) (x1:Bool):exec EidxB 1000 [.code (bodyOf Try.prog 58)] (initSt cidxB.ps ((x0,x1,()))) =
  .cut (loopAt (bodyOf Try.prog 58) 2).1 (loopAt (bodyOf Try.prog 58) 2).2 (St.mk [(0,AV.val (Ty.slc false Ty.bool) x0),(1,AV.val Ty.bool x1),(7,AV.val (Ty.int IntKind.i64) (↑(List.length x0):Int)),(8,AV.val (Ty.int IntKind.i64) (0:Int))] []):=by kernel_rfl
def EidxB_s2 (v0:List Bool) (v1:Bool) (v7:Int) (v8:Int):St:=St.mk [(0,AV.val (Ty.slc false Ty.bool) v0),(1,AV.val Ty.bool v1),(7,AV.val (Ty.int IntKind.i64) v7),(8,AV.val (Ty.int IntKind.i64) v8)] []
theorem EidxB_l2 (v0:List Bool) (v1:Bool) (v7:Int) (v8:Int):exec EidxB 1000 (.code (loopAt (bodyOf Try.prog 58) 2).1::.inLoop (loopAt (bodyOf Try.prog 58) 2).1::(loopAt (bodyOf Try.prog 58) 2).2) (EidxB_s2 v0 v1 v7 v8) =
  cond (decide (v8<v7)) (.need ((0:Int)≤v8∧v8<(↑(List.length v0):Int)) (cond (v1 == List.getD v0 (Int.toNat v8) false) (.ret ((v8,()))) (.need (inK IntKind.i64 (v8+(1:Int))) (.cut (loopAt (bodyOf Try.prog 58) 2).1 (loopAt (bodyOf Try.prog 58) 2).2 (St.mk [(0,AV.val (Ty.slc false Ty.bool) v0),(1,AV.val Ty.bool v1),(7,AV.val (Ty.int IntKind.i64) v7),(8,AV.val (Ty.int IntKind.i64) (v8+(1:Int)))] []))))) (.ret (((-1:Int),()))):=by kernel_rfl
theorem cidxB_valid:cidxB.Valid Try.prog 58:=by
  refine Ctr.valid_of EidxB_ok rfl rfl Try.func58 (c:=bodyOf Try.prog 58) rfl rfl FidxB_ok rfl ?_
  rintro ⟨(l:List (Bool)),(x:Bool),⟨⟩⟩ - ⟨⟨hl,-⟩,-⟩
  have hl:l.length≤9223372036854775807:=hl
  refine exec_sound (n:=1000) EidxB_ok FidxB_ok ?_
  refine holds_of_eq (EidxB_t l x) ?_
  refine Reach.loopI EidxB_ok FidxB_ok (fun i:Nat=>EidxB_s2 l x (l.length:Int) (i:Int) ) (fun i=>i≤l.length∧idxOf (fun y=>decide (x=y)) l=idxGo (fun y=>decide (x=y)) (l.drop i) i)
    (fun i=>l.length - i) 1000 (fun _=>⟨uniq_of rfl,uniq_of rfl⟩) ?_ 0 ⟨by omega,rfl⟩
  rintro i ⟨k1,k2⟩ - ih
  refine holds_of_eq (EidxB_l2 ..) ?_
  simp only [holds_cond,Tree.holds,true_and,true_implies,decide_eq_true_eq,decide_eq_false_iff_not,Bool.not_eq_true',Bool.not_eq_false',Int.toNat_natCast,inK_i64,List.length_set,List.length_cons,List.length_nil]
  refine ⟨fun h=>?_,fun h=>?_⟩
  · rw [drop_getD (show i<l.length by omega) false,idxGo] at k2
    have key:∀ b:Bool,(b=true↔x=l.getD i false)→(b=true→(((i:Int),()):Int×Unit)=(idxOf (fun y=>decide (x=y)) l,()))∧(b=false→idxOf (fun y=>decide (x=y)) l=idxGo (fun y=>decide (x=y)) (l.drop (i+1)) (i+1)):=fun b hb=>by
      refine ⟨fun c=>?_,fun c=>?_⟩
      · rw [k2,if_pos (decide_eq_true (hb.1 c))]
      · rw [k2,if_neg (fun h9=>by rw [hb.2 (of_decide_eq_true h9)] at c; cases c)]
    refine ⟨by omega,fun _=>⟨fun c=>?_,fun c=>⟨by omega,fun _=>ih (i+1) ⟨by omega,?_⟩ (by omega)⟩⟩⟩
    · exact (key true ⟨fun _=>eq_of_beq c,fun _=>rfl⟩).1 rfl
    · exact (key false ⟨fun h9=>(by cases h9),fun h9=>((ne_of_beq_false c) h9).elim⟩).2 rfl
  · rw [List.drop_eq_nil_of_le (by omega)] at k2
    show (((-1:Int),()):Int×Unit)=(idxOf (fun y=>decide (x=y)) l,())
    rw [k2]; rfl
def ccontB:Ctr:={ ps:=[.v (.slc false .bool),.v .bool],rs:=[.bool],pre:=fun _=>True,fn:=fun x=>(decide ((show Bool from x.2.1)∈(show List (Bool) from x.1)),()),out:=fun _=>() }
noncomputable def EcontB:Env:={ P:=Try.prog,tt:=tt,ctr:=[(58,cidxB)],res:=[Go.ResultVar.tmp 4],rs:=[Ty.bool],ps:=[PK.v (Ty.slc false Ty.bool),PK.v Ty.bool],cuts:=[],nt:=9 }
theorem EcontB_ok:EnvOk EcontB:=envOk tt_ok ⟨cidxB_valid,trivial⟩
theorem FcontB_ok:FnOk EcontB Try.f48:=⟨rfl,rfl⟩
theorem EcontB_t (x0:List Bool) (x1:Bool):exec EcontB 1000 [.code (bodyOf Try.prog 48)] (initSt ccontB.ps ((x0,x1,()))) =
  .need (True) (.ret ((decide ((0:Int)≤idxOf (fun y=>decide (x1=y)) x0),()))):=by kernel_rfl
theorem ccontB_valid:ccontB.Valid Try.prog 48:=by
  refine Ctr.valid_of EcontB_ok rfl rfl Try.func48 (c:=bodyOf Try.prog 48) rfl rfl FcontB_ok rfl ?_
  rintro ⟨(l:List (Bool)),(x:Bool),⟨⟩⟩ - -
  refine exec_sound (n:=1000) EcontB_ok FcontB_ok ?_
  refine holds_of_eq (EcontB_t l x) ?_
  refine ⟨trivial,fun _=>?_⟩
  show ((decide (0≤idxOf (fun y=>decide (x=y)) l),()):Bool×Unit)=(decide (x∈l),())
  rw [idx_any]
  have:l.any (fun y=>decide (x=y))=true↔x∈l:=by
    rw [List.any_eq_true]
    exact ⟨fun ⟨y,h1,h2⟩=>by rw [of_decide_eq_true h2]; exact h1,fun h=>⟨x,h,decide_eq_true rfl⟩⟩
  cases e:l.any (fun y=>decide (x=y)) with
  | true=>rw [decide_eq_true (this.1 e)]
  | false=>rw [decide_eq_false (fun h=>by rw [this.2 h] at e; cases e)]
noncomputable def Epic:Env:={ P:=Try.prog,tt:=tt,ctr:=[(48,ccontB)],res:=[Go.ResultVar.cell 2 26],rs:=[Ty.pair (Ty.slc false (Ty.int IntKind.i64)) (Ty.pair (Ty.slc true Is) (Ty.pair Ty.bool (Ty.pair (Ty.slc false (Ty.int IntKind.i64)) (Ty.pair (Ty.int IntKind.i64) Ty.unit))))],ps:=[PK.rd (Ty.pair (Ty.slc false (Ty.int IntKind.i64)) (Ty.pair (Ty.slc false (Ty.int IntKind.i64)) (Ty.pair (Ty.slc false Ty.bool) (Ty.pair (Ty.slc false (Ty.slc false (Ty.pair (Ty.slc false (Ty.int IntKind.i64)) (Ty.pair Ty.bool (Ty.pair (Ty.int IntKind.i64) Ty.unit))))) Ty.unit))))],cuts:=[(3,[(2,none),(3,none),(29,none),(30,none),(31,none)]),(7,[(2,none),(3,none),(4,none),(6,some Is),(29,none),(30,none),(31,none),(36,none),(37,none),(38,none)]),(12,[(2,none),(3,none),(4,none),(6,some Is),(29,none),(30,none),(31,none),(36,none),(37,none),(38,none),(61,none),(62,none),(63,none)])],nt:=83 }
theorem Epic_ok:EnvOk Epic:=envOk tt_ok ⟨ccontB_valid,trivial⟩
theorem Fpic_ok:FnOk Epic Try.f21:=⟨rfl,rfl⟩
theorem Epic_t (x0_1:List Int) (x0_2_1:List Int) (x0_2_2_1:List Bool) (x0_2_2_2_1:List (List (List Int×Bool×Int×Unit))):exec Epic 1000 [.code (bodyOf Try.prog 21)] (initSt cpic.ps (((x0_1,x0_2_1,x0_2_2_1,x0_2_2_2_1,()),()))) =
  .need (True) (.cut (loopAt (bodyOf Try.prog 21) 3).1 (loopAt (bodyOf Try.prog 21) 3).2 (St.mk [(2,AV.ptr 2 []),(3,AV.ptr 3 []),(29,AV.val (Ty.slc false (Ty.slc false (Ty.pair (Ty.slc false (Ty.int IntKind.i64)) (Ty.pair Ty.bool (Ty.pair (Ty.int IntKind.i64) Ty.unit))))) x0_2_2_2_1),(30,AV.val (Ty.int IntKind.i64) (↑(List.length x0_2_2_2_1):Int)),(31,AV.val (Ty.int IntKind.i64) (0:Int))] [(2,Ent.var (Ty.pair Is (Ty.pair (Ty.slc true Is) (Ty.pair Ty.bool (Ty.pair Is (Ty.pair (Ty.int IntKind.i64) Ty.unit))))) ([],[],false,[],(0:Int),())),(3,Ent.var (Ty.pair (Ty.slc false (Ty.int IntKind.i64)) (Ty.pair (Ty.slc true Is) (Ty.pair Ty.bool (Ty.pair (Ty.slc false (Ty.int IntKind.i64)) (Ty.pair (Ty.int IntKind.i64) Ty.unit))))) (x0_2_1,[],!decide (false∈x0_2_2_1),x0_1,(0:Int),()))])):=by kernel_rfl
def Epic_s3 (v29:List (List (List Int×Bool×Int×Unit))) (v30:Int) (v31:Int) (o2_1:List Int) (o2_2_1:List (List Int)) (o2_2_2_1:Bool) (o2_2_2_2_1:List Int) (o2_2_2_2_2_1:Int) (o3_1:List Int) (o3_2_1:List (List Int)) (o3_2_2_1:Bool) (o3_2_2_2_1:List Int) (o3_2_2_2_2_1:Int):St:=St.mk [(2,AV.ptr 2 []),(3,AV.ptr 3 []),(29,AV.val (Ty.slc false (Ty.slc false (Ty.pair (Ty.slc false (Ty.int IntKind.i64)) (Ty.pair Ty.bool (Ty.pair (Ty.int IntKind.i64) Ty.unit))))) v29),(30,AV.val (Ty.int IntKind.i64) v30),(31,AV.val (Ty.int IntKind.i64) v31)] [(2,Ent.var (Ty.pair Is (Ty.pair (Ty.slc true Is) (Ty.pair Ty.bool (Ty.pair Is (Ty.pair (Ty.int IntKind.i64) Ty.unit))))) (o2_1,o2_2_1,o2_2_2_1,o2_2_2_2_1,o2_2_2_2_2_1,())),(3,Ent.var (Ty.pair (Ty.slc false (Ty.int IntKind.i64)) (Ty.pair (Ty.slc true Is) (Ty.pair Ty.bool (Ty.pair (Ty.slc false (Ty.int IntKind.i64)) (Ty.pair (Ty.int IntKind.i64) Ty.unit))))) (o3_1,o3_2_1,o3_2_2_1,o3_2_2_2_1,o3_2_2_2_2_1,()))]
theorem Epic_l3 (v29:List (List (List Int×Bool×Int×Unit))) (v30:Int) (v31:Int) (o2_1:List Int) (o2_2_1:List (List Int)) (o2_2_2_1:Bool) (o2_2_2_2_1:List Int) (o2_2_2_2_2_1:Int) (o3_1:List Int) (o3_2_1:List (List Int)) (o3_2_2_1:Bool) (o3_2_2_2_1:List Int) (o3_2_2_2_2_1:Int):exec Epic 1000 (.code (loopAt (bodyOf Try.prog 21) 3).1::.inLoop (loopAt (bodyOf Try.prog 21) 3).1::(loopAt (bodyOf Try.prog 21) 3).2) (Epic_s3 v29 v30 v31 o2_1 o2_2_1 o2_2_2_1 o2_2_2_2_1 o2_2_2_2_2_1 o3_1 o3_2_1 o3_2_2_1 o3_2_2_2_1 o3_2_2_2_2_1) =
  cond (decide (v31<v30)) (.need ((0:Int)≤v31∧v31<(↑(List.length v29):Int)) (.cut (loopAt (bodyOf Try.prog 21) 7).1 (loopAt (bodyOf Try.prog 21) 7).2 (St.mk [(2,AV.ptr 2 []),(3,AV.ptr 3 []),(4,AV.val (Ty.int IntKind.i64) v31),(6,AV.at_ 1000006 []),(29,AV.val (Ty.slc false (Ty.slc false (Ty.pair (Ty.slc false (Ty.int IntKind.i64)) (Ty.pair Ty.bool (Ty.pair (Ty.int IntKind.i64) Ty.unit))))) v29),(30,AV.val (Ty.int IntKind.i64) v30),(31,AV.val (Ty.int IntKind.i64) v31),(36,AV.val (Ty.slc false (Ty.pair (Ty.slc false (Ty.int IntKind.i64)) (Ty.pair Ty.bool (Ty.pair (Ty.int IntKind.i64) Ty.unit)))) (List.getD v29 (Int.toNat v31) [])),(37,AV.val (Ty.int IntKind.i64) (↑(List.length (List.getD v29 (Int.toNat v31) [])):Int)),(38,AV.val (Ty.int IntKind.i64) (0:Int))] [(2,Ent.var (Ty.pair Is (Ty.pair (Ty.slc true Is) (Ty.pair Ty.bool (Ty.pair Is (Ty.pair (Ty.int IntKind.i64) Ty.unit))))) (o2_1,o2_2_1,o2_2_2_1,o2_2_2_2_1,o2_2_2_2_2_1,())),(3,Ent.var (Ty.pair (Ty.slc false (Ty.int IntKind.i64)) (Ty.pair (Ty.slc true Is) (Ty.pair Ty.bool (Ty.pair (Ty.slc false (Ty.int IntKind.i64)) (Ty.pair (Ty.int IntKind.i64) Ty.unit))))) (o3_1,o3_2_1,o3_2_2_1,o3_2_2_2_1,o3_2_2_2_2_1,())),(1000006,Ent.own Is [])]))) (.ret (((o3_1,o3_2_1,o3_2_2_1,o3_2_2_2_1,o3_2_2_2_2_1,()),()))):=by kernel_rfl
def Epic_s7 (v4:Int) (v29:List (List (List Int×Bool×Int×Unit))) (v30:Int) (v31:Int) (v36:List (List Int×Bool×Int×Unit)) (v37:Int) (v38:Int) (o2_1:List Int) (o2_2_1:List (List Int)) (o2_2_2_1:Bool) (o2_2_2_2_1:List Int) (o2_2_2_2_2_1:Int) (o3_1:List Int) (o3_2_1:List (List Int)) (o3_2_2_1:Bool) (o3_2_2_2_1:List Int) (o3_2_2_2_2_1:Int) (o1000006:List Int):St:=St.mk [(2,AV.ptr 2 []),(3,AV.ptr 3 []),(4,AV.val (Ty.int IntKind.i64) v4),(6,AV.at_ 1000006 []),(29,AV.val (Ty.slc false (Ty.slc false (Ty.pair (Ty.slc false (Ty.int IntKind.i64)) (Ty.pair Ty.bool (Ty.pair (Ty.int IntKind.i64) Ty.unit))))) v29),(30,AV.val (Ty.int IntKind.i64) v30),(31,AV.val (Ty.int IntKind.i64) v31),(36,AV.val (Ty.slc false (Ty.pair (Ty.slc false (Ty.int IntKind.i64)) (Ty.pair Ty.bool (Ty.pair (Ty.int IntKind.i64) Ty.unit)))) v36),(37,AV.val (Ty.int IntKind.i64) v37),(38,AV.val (Ty.int IntKind.i64) v38)] [(2,Ent.var (Ty.pair Is (Ty.pair (Ty.slc true Is) (Ty.pair Ty.bool (Ty.pair Is (Ty.pair (Ty.int IntKind.i64) Ty.unit))))) (o2_1,o2_2_1,o2_2_2_1,o2_2_2_2_1,o2_2_2_2_2_1,())),(3,Ent.var (Ty.pair (Ty.slc false (Ty.int IntKind.i64)) (Ty.pair (Ty.slc true Is) (Ty.pair Ty.bool (Ty.pair (Ty.slc false (Ty.int IntKind.i64)) (Ty.pair (Ty.int IntKind.i64) Ty.unit))))) (o3_1,o3_2_1,o3_2_2_1,o3_2_2_2_1,o3_2_2_2_2_1,())),(1000006,Ent.own Is o1000006)]
theorem Epic_l7 (v4:Int) (v29:List (List (List Int×Bool×Int×Unit))) (v30:Int) (v31:Int) (v36:List (List Int×Bool×Int×Unit)) (v37:Int) (v38:Int) (o2_1:List Int) (o2_2_1:List (List Int)) (o2_2_2_1:Bool) (o2_2_2_2_1:List Int) (o2_2_2_2_2_1:Int) (o3_1:List Int) (o3_2_1:List (List Int)) (o3_2_2_1:Bool) (o3_2_2_2_1:List Int) (o3_2_2_2_2_1:Int) (o1000006:List Int):exec Epic 1000 (.code (loopAt (bodyOf Try.prog 21) 7).1::.inLoop (loopAt (bodyOf Try.prog 21) 7).1::(loopAt (bodyOf Try.prog 21) 7).2) (Epic_s7 v4 v29 v30 v31 v36 v37 v38 o2_1 o2_2_1 o2_2_2_1 o2_2_2_2_1 o2_2_2_2_2_1 o3_1 o3_2_1 o3_2_2_1 o3_2_2_2_1 o3_2_2_2_2_1 o1000006) =
  cond (decide (v38<v37)) (.need ((0:Int)≤v38∧v38<(↑(List.length v36):Int)) (.need (List.length o1000006+List.length (List.set [(0:Int)] (Int.toNat (↑0:Int)) (Prod.fst (Prod.snd (Prod.snd (List.getD v36 (Int.toNat v38) ([],false,(0:Int),()))))))≤140737488355328∧(List.length o1000006+List.length (List.set [(0:Int)] (Int.toNat (↑0:Int)) (Prod.fst (Prod.snd (Prod.snd (List.getD v36 (Int.toNat v38) ([],false,(0:Int),())))))))*Ty.wb (Ty.int IntKind.i64)≤140737488355328) (cond (o3_2_2_1) (cond (decide (v4=v38)) (.cut (loopAt (bodyOf Try.prog 21) 12).1 (loopAt (bodyOf Try.prog 21) 12).2 (St.mk [(2,AV.ptr 2 []),(3,AV.ptr 3 []),(4,AV.val (Ty.int IntKind.i64) v4),(6,AV.at_ 1000006 []),(29,AV.val (Ty.slc false (Ty.slc false (Ty.pair (Ty.slc false (Ty.int IntKind.i64)) (Ty.pair Ty.bool (Ty.pair (Ty.int IntKind.i64) Ty.unit))))) v29),(30,AV.val (Ty.int IntKind.i64) v30),(31,AV.val (Ty.int IntKind.i64) v31),(36,AV.val (Ty.slc false (Ty.pair (Ty.slc false (Ty.int IntKind.i64)) (Ty.pair Ty.bool (Ty.pair (Ty.int IntKind.i64) Ty.unit)))) v36),(37,AV.val (Ty.int IntKind.i64) v37),(38,AV.val (Ty.int IntKind.i64) v38),(61,AV.val (Ty.slc false (Ty.int IntKind.i64)) (Prod.fst (List.getD v36 (Int.toNat v38) ([],false,(0:Int),())))),(62,AV.val (Ty.int IntKind.i64) (↑(List.length (Prod.fst (List.getD v36 (Int.toNat v38) ([],false,(0:Int),())))):Int)),(63,AV.val (Ty.int IntKind.i64) (0:Int))] [(2,Ent.var (Ty.pair Is (Ty.pair (Ty.slc true Is) (Ty.pair Ty.bool (Ty.pair Is (Ty.pair (Ty.int IntKind.i64) Ty.unit))))) (o2_1,o2_2_1,o2_2_2_1,o2_2_2_2_1,o2_2_2_2_2_1,())),(3,Ent.var (Ty.pair (Ty.slc false (Ty.int IntKind.i64)) (Ty.pair (Ty.slc true Is) (Ty.pair Ty.bool (Ty.pair (Ty.slc false (Ty.int IntKind.i64)) (Ty.pair (Ty.int IntKind.i64) Ty.unit))))) (o3_1,o3_2_1,true,o3_2_2_2_1,o3_2_2_2_2_1,())),(1000006,Ent.own Is (o1000006++List.set [(0:Int)] (Int.toNat (↑0:Int)) (Prod.fst (Prod.snd (Prod.snd (List.getD v36 (Int.toNat v38) ([],false,(0:Int),())))))))])) (.cut (loopAt (bodyOf Try.prog 21) 12).1 (loopAt (bodyOf Try.prog 21) 12).2 (St.mk [(2,AV.ptr 2 []),(3,AV.ptr 3 []),(4,AV.val (Ty.int IntKind.i64) v4),(6,AV.at_ 1000006 []),(29,AV.val (Ty.slc false (Ty.slc false (Ty.pair (Ty.slc false (Ty.int IntKind.i64)) (Ty.pair Ty.bool (Ty.pair (Ty.int IntKind.i64) Ty.unit))))) v29),(30,AV.val (Ty.int IntKind.i64) v30),(31,AV.val (Ty.int IntKind.i64) v31),(36,AV.val (Ty.slc false (Ty.pair (Ty.slc false (Ty.int IntKind.i64)) (Ty.pair Ty.bool (Ty.pair (Ty.int IntKind.i64) Ty.unit)))) v36),(37,AV.val (Ty.int IntKind.i64) v37),(38,AV.val (Ty.int IntKind.i64) v38),(61,AV.val (Ty.slc false (Ty.int IntKind.i64)) (Prod.fst (List.getD v36 (Int.toNat v38) ([],false,(0:Int),())))),(62,AV.val (Ty.int IntKind.i64) (↑(List.length (Prod.fst (List.getD v36 (Int.toNat v38) ([],false,(0:Int),())))):Int)),(63,AV.val (Ty.int IntKind.i64) (0:Int))] [(2,Ent.var (Ty.pair Is (Ty.pair (Ty.slc true Is) (Ty.pair Ty.bool (Ty.pair Is (Ty.pair (Ty.int IntKind.i64) Ty.unit))))) (o2_1,o2_2_1,o2_2_2_1,o2_2_2_2_1,o2_2_2_2_2_1,())),(3,Ent.var (Ty.pair (Ty.slc false (Ty.int IntKind.i64)) (Ty.pair (Ty.slc true Is) (Ty.pair Ty.bool (Ty.pair (Ty.slc false (Ty.int IntKind.i64)) (Ty.pair (Ty.int IntKind.i64) Ty.unit))))) (o3_1,o3_2_1,Prod.fst (Prod.snd (List.getD v36 (Int.toNat v38) ([],false,(0:Int),()))),o3_2_2_2_1,o3_2_2_2_2_1,())),(1000006,Ent.own Is (o1000006++List.set [(0:Int)] (Int.toNat (↑0:Int)) (Prod.fst (Prod.snd (Prod.snd (List.getD v36 (Int.toNat v38) ([],false,(0:Int),())))))))]))) (.cut (loopAt (bodyOf Try.prog 21) 12).1 (loopAt (bodyOf Try.prog 21) 12).2 (St.mk [(2,AV.ptr 2 []),(3,AV.ptr 3 []),(4,AV.val (Ty.int IntKind.i64) v4),(6,AV.at_ 1000006 []),(29,AV.val (Ty.slc false (Ty.slc false (Ty.pair (Ty.slc false (Ty.int IntKind.i64)) (Ty.pair Ty.bool (Ty.pair (Ty.int IntKind.i64) Ty.unit))))) v29),(30,AV.val (Ty.int IntKind.i64) v30),(31,AV.val (Ty.int IntKind.i64) v31),(36,AV.val (Ty.slc false (Ty.pair (Ty.slc false (Ty.int IntKind.i64)) (Ty.pair Ty.bool (Ty.pair (Ty.int IntKind.i64) Ty.unit)))) v36),(37,AV.val (Ty.int IntKind.i64) v37),(38,AV.val (Ty.int IntKind.i64) v38),(61,AV.val (Ty.slc false (Ty.int IntKind.i64)) (Prod.fst (List.getD v36 (Int.toNat v38) ([],false,(0:Int),())))),(62,AV.val (Ty.int IntKind.i64) (↑(List.length (Prod.fst (List.getD v36 (Int.toNat v38) ([],false,(0:Int),())))):Int)),(63,AV.val (Ty.int IntKind.i64) (0:Int))] [(2,Ent.var (Ty.pair Is (Ty.pair (Ty.slc true Is) (Ty.pair Ty.bool (Ty.pair Is (Ty.pair (Ty.int IntKind.i64) Ty.unit))))) (o2_1,o2_2_1,o2_2_2_1,o2_2_2_2_1,o2_2_2_2_2_1,())),(3,Ent.var (Ty.pair (Ty.slc false (Ty.int IntKind.i64)) (Ty.pair (Ty.slc true Is) (Ty.pair Ty.bool (Ty.pair (Ty.slc false (Ty.int IntKind.i64)) (Ty.pair (Ty.int IntKind.i64) Ty.unit))))) (o3_1,o3_2_1,false,o3_2_2_2_1,o3_2_2_2_2_1,())),(1000006,Ent.own Is (o1000006++List.set [(0:Int)] (Int.toNat (↑0:Int)) (Prod.fst (Prod.snd (Prod.snd (List.getD v36 (Int.toNat v38) ([],false,(0:Int),())))))))]))))) (.need (True∧[]++[Step.fld 1]=[]++[Step.fld 1]∧List.length o3_2_1+List.length (List.set [[]] (Int.toNat (↑0:Int)) o1000006)≤140737488355328∧(List.length o3_2_1+List.length (List.set [[]] (Int.toNat (↑0:Int)) o1000006))*Ty.wb Is≤140737488355328) (.need (inK IntKind.i64 (v31+(1:Int))) (.cut (loopAt (bodyOf Try.prog 21) 3).1 (loopAt (bodyOf Try.prog 21) 3).2 (St.mk [(2,AV.ptr 2 []),(3,AV.ptr 3 []),(29,AV.val (Ty.slc false (Ty.slc false (Ty.pair (Ty.slc false (Ty.int IntKind.i64)) (Ty.pair Ty.bool (Ty.pair (Ty.int IntKind.i64) Ty.unit))))) v29),(30,AV.val (Ty.int IntKind.i64) v30),(31,AV.val (Ty.int IntKind.i64) (v31+(1:Int)))] [(2,Ent.var (Ty.pair Is (Ty.pair (Ty.slc true Is) (Ty.pair Ty.bool (Ty.pair Is (Ty.pair (Ty.int IntKind.i64) Ty.unit))))) (o2_1,o2_2_1,o2_2_2_1,o2_2_2_2_1,o2_2_2_2_2_1,())),(3,Ent.var (Ty.pair (Ty.slc false (Ty.int IntKind.i64)) (Ty.pair (Ty.slc true Is) (Ty.pair Ty.bool (Ty.pair (Ty.slc false (Ty.int IntKind.i64)) (Ty.pair (Ty.int IntKind.i64) Ty.unit))))) (o3_1,o3_2_1++List.set [[]] (Int.toNat (↑0:Int)) o1000006,o3_2_2_1,o3_2_2_2_1,o3_2_2_2_2_1,()))])))):=by kernel_rfl
def Epic_s12 (v4:Int) (v29:List (List (List Int×Bool×Int×Unit))) (v30:Int) (v31:Int) (v36:List (List Int×Bool×Int×Unit)) (v37:Int) (v38:Int) (v61:List Int) (v62:Int) (v63:Int) (o2_1:List Int) (o2_2_1:List (List Int)) (o2_2_2_1:Bool) (o2_2_2_2_1:List Int) (o2_2_2_2_2_1:Int) (o3_1:List Int) (o3_2_1:List (List Int)) (o3_2_2_1:Bool) (o3_2_2_2_1:List Int) (o3_2_2_2_2_1:Int) (o1000006:List Int):St:=St.mk [(2,AV.ptr 2 []),(3,AV.ptr 3 []),(4,AV.val (Ty.int IntKind.i64) v4),(6,AV.at_ 1000006 []),(29,AV.val (Ty.slc false (Ty.slc false (Ty.pair (Ty.slc false (Ty.int IntKind.i64)) (Ty.pair Ty.bool (Ty.pair (Ty.int IntKind.i64) Ty.unit))))) v29),(30,AV.val (Ty.int IntKind.i64) v30),(31,AV.val (Ty.int IntKind.i64) v31),(36,AV.val (Ty.slc false (Ty.pair (Ty.slc false (Ty.int IntKind.i64)) (Ty.pair Ty.bool (Ty.pair (Ty.int IntKind.i64) Ty.unit)))) v36),(37,AV.val (Ty.int IntKind.i64) v37),(38,AV.val (Ty.int IntKind.i64) v38),(61,AV.val (Ty.slc false (Ty.int IntKind.i64)) v61),(62,AV.val (Ty.int IntKind.i64) v62),(63,AV.val (Ty.int IntKind.i64) v63)] [(2,Ent.var (Ty.pair Is (Ty.pair (Ty.slc true Is) (Ty.pair Ty.bool (Ty.pair Is (Ty.pair (Ty.int IntKind.i64) Ty.unit))))) (o2_1,o2_2_1,o2_2_2_1,o2_2_2_2_1,o2_2_2_2_2_1,())),(3,Ent.var (Ty.pair (Ty.slc false (Ty.int IntKind.i64)) (Ty.pair (Ty.slc true Is) (Ty.pair Ty.bool (Ty.pair (Ty.slc false (Ty.int IntKind.i64)) (Ty.pair (Ty.int IntKind.i64) Ty.unit))))) (o3_1,o3_2_1,o3_2_2_1,o3_2_2_2_1,o3_2_2_2_2_1,())),(1000006,Ent.own Is o1000006)]
theorem Epic_l12 (v4:Int) (v29:List (List (List Int×Bool×Int×Unit))) (v30:Int) (v31:Int) (v36:List (List Int×Bool×Int×Unit)) (v37:Int) (v38:Int) (v61:List Int) (v62:Int) (v63:Int) (o2_1:List Int) (o2_2_1:List (List Int)) (o2_2_2_1:Bool) (o2_2_2_2_1:List Int) (o2_2_2_2_2_1:Int) (o3_1:List Int) (o3_2_1:List (List Int)) (o3_2_2_1:Bool) (o3_2_2_2_1:List Int) (o3_2_2_2_2_1:Int) (o1000006:List Int):exec Epic 1000 (.code (loopAt (bodyOf Try.prog 21) 12).1::.inLoop (loopAt (bodyOf Try.prog 21) 12).1::(loopAt (bodyOf Try.prog 21) 12).2) (Epic_s12 v4 v29 v30 v31 v36 v37 v38 v61 v62 v63 o2_1 o2_2_1 o2_2_2_1 o2_2_2_2_1 o2_2_2_2_2_1 o3_1 o3_2_1 o3_2_2_1 o3_2_2_2_1 o3_2_2_2_2_1 o1000006) =
  cond (decide (v63<v62)) (.need ((0:Int)≤v63∧v63<(↑(List.length v61):Int)) (.need (inK IntKind.i64 (o3_2_2_2_2_1+if List.getD v61 (Int.toNat v63) (0:Int)<(0:Int) then (0:Int) else List.getD v61 (Int.toNat v63) (0:Int))) (.need (inK IntKind.i64 (v63+(1:Int))) (.cut (loopAt (bodyOf Try.prog 21) 12).1 (loopAt (bodyOf Try.prog 21) 12).2 (St.mk [(2,AV.ptr 2 []),(3,AV.ptr 3 []),(4,AV.val (Ty.int IntKind.i64) v4),(6,AV.at_ 1000006 []),(29,AV.val (Ty.slc false (Ty.slc false (Ty.pair (Ty.slc false (Ty.int IntKind.i64)) (Ty.pair Ty.bool (Ty.pair (Ty.int IntKind.i64) Ty.unit))))) v29),(30,AV.val (Ty.int IntKind.i64) v30),(31,AV.val (Ty.int IntKind.i64) v31),(36,AV.val (Ty.slc false (Ty.pair (Ty.slc false (Ty.int IntKind.i64)) (Ty.pair Ty.bool (Ty.pair (Ty.int IntKind.i64) Ty.unit)))) v36),(37,AV.val (Ty.int IntKind.i64) v37),(38,AV.val (Ty.int IntKind.i64) v38),(61,AV.val (Ty.slc false (Ty.int IntKind.i64)) v61),(62,AV.val (Ty.int IntKind.i64) v62),(63,AV.val (Ty.int IntKind.i64) (v63+(1:Int)))] [(2,Ent.var (Ty.pair Is (Ty.pair (Ty.slc true Is) (Ty.pair Ty.bool (Ty.pair Is (Ty.pair (Ty.int IntKind.i64) Ty.unit))))) (o2_1,o2_2_1,o2_2_2_1,o2_2_2_2_1,o2_2_2_2_2_1,())),(3,Ent.var (Ty.pair (Ty.slc false (Ty.int IntKind.i64)) (Ty.pair (Ty.slc true Is) (Ty.pair Ty.bool (Ty.pair (Ty.slc false (Ty.int IntKind.i64)) (Ty.pair (Ty.int IntKind.i64) Ty.unit))))) (o3_1,o3_2_1,o3_2_2_1,o3_2_2_2_1,o3_2_2_2_2_1+if List.getD v61 (Int.toNat v63) (0:Int)<(0:Int) then (0:Int) else List.getD v61 (Int.toNat v63) (0:Int),())),(1000006,Ent.own Is o1000006)]))))) (.need (inK IntKind.i64 (v38+(1:Int))) (.cut (loopAt (bodyOf Try.prog 21) 7).1 (loopAt (bodyOf Try.prog 21) 7).2 (St.mk [(2,AV.ptr 2 []),(3,AV.ptr 3 []),(4,AV.val (Ty.int IntKind.i64) v4),(6,AV.at_ 1000006 []),(29,AV.val (Ty.slc false (Ty.slc false (Ty.pair (Ty.slc false (Ty.int IntKind.i64)) (Ty.pair Ty.bool (Ty.pair (Ty.int IntKind.i64) Ty.unit))))) v29),(30,AV.val (Ty.int IntKind.i64) v30),(31,AV.val (Ty.int IntKind.i64) v31),(36,AV.val (Ty.slc false (Ty.pair (Ty.slc false (Ty.int IntKind.i64)) (Ty.pair Ty.bool (Ty.pair (Ty.int IntKind.i64) Ty.unit)))) v36),(37,AV.val (Ty.int IntKind.i64) v37),(38,AV.val (Ty.int IntKind.i64) (v38+(1:Int)))] [(2,Ent.var (Ty.pair Is (Ty.pair (Ty.slc true Is) (Ty.pair Ty.bool (Ty.pair Is (Ty.pair (Ty.int IntKind.i64) Ty.unit))))) (o2_1,o2_2_1,o2_2_2_1,o2_2_2_2_1,o2_2_2_2_2_1,())),(3,Ent.var (Ty.pair (Ty.slc false (Ty.int IntKind.i64)) (Ty.pair (Ty.slc true Is) (Ty.pair Ty.bool (Ty.pair (Ty.slc false (Ty.int IntKind.i64)) (Ty.pair (Ty.int IntKind.i64) Ty.unit))))) (o3_1,o3_2_1,o3_2_2_1,o3_2_2_2_1,o3_2_2_2_2_1,())),(1000006,Ent.own Is o1000006)]))):=by kernel_rfl
theorem mx_le {x:Int} (h:x≤1000000):0≤mx x∧mx x≤1000000:=by unfold mx; split<;>omega
theorem undF_le {u:Int} {w:List Int} (h:∀ x∈w,x≤1000000):∀ k,k≤w.length→u≤undF u w k∧undF u w k≤u+1000000*(k:Int)
  | 0,_=>by simp [undF]
  | k+1,hk=>by
    have ih:=undF_le (u:=u) h k (by omega)
    have:=mx_le (h _ (getD_mem (d:=0) (show k<w.length by omega)))
    rw [undF]; push_cast; omega
theorem rowS_len {r:List LaneD} {p:Nat} {s:Bool×Int}:∀ j,(rowS r p s j).1.length=j
  | 0=>rfl
  | j+1=>by rw [rowS,List.length_append,rowS_len j]; rfl
theorem rowS_le {r:List LaneD} {p:Nat} {s:Bool×Int} (h:∀ j,j<r.length→(∀ x∈(r.getD j l0).1,x≤1000000)∧(r.getD j l0).1.length≤1000):∀ j,j≤r.length→s.2≤(rowS r p s j).2.2∧(rowS r p s j).2.2≤s.2+1000000000*(j:Int)
  | 0,_=>by simp [rowS]
  | j+1,hj=>by
    have ih:=rowS_le (p:=p) (s:=s) h j (by omega)
    obtain ⟨h1,h2⟩:=h j (by omega)
    have:=undF_le (u:=(rowS r p s j).2.2) h1 _ (Nat.le_refl _)
    rw [rowS]; push_cast; omega
theorem picS_len {L:List (List LaneD)} {w:Bool}:∀ i,(picS L w i).1.length=i
  | 0=>rfl
  | i+1=>by rw [picS,List.length_append,picS_len i]; rfl
theorem picS_le {L:List (List LaneD)} {w:Bool} {n:Nat} (hn:n≤6) (hr:∀ i,i<L.length→(L.getD i []).length=n) (h:∀ i j,i<L.length→j<n→(∀ x∈(laneAt L i j).1,x≤1000000)∧(laneAt L i j).1.length≤1000):∀ i,i≤L.length→0≤(picS L w i).2.2∧(picS L w i).2.2≤6000000000*(i:Int)
  | 0,_=>by simp [picS]
  | i+1,hi=>by
    have ih:=picS_le (w:=w) hn hr h i (by omega)
    have e:=hr i (by omega)
    have:=rowS_le (r:=L.getD i []) (p:=i) (s:=(picS L w i).2) (fun j hj=>h i j (by omega) (by omega)) _ (Nat.le_refl _)
    rw [picS]; push_cast; omega
set_option maxHeartbeats 2000000 in
theorem cpic_valid:cpic.Valid Try.prog 21:=by
  refine Ctr.valid_of Epic_ok rfl rfl Try.func21 (c:=bodyOf Try.prog 21) rfl rfl Fpic_ok rfl ?_
  rintro ⟨⟨(N:List Int),(H:List Int),(R:List Bool),(L:List (List LaneD)),⟨⟩⟩,⟨⟩⟩ ⟨n,hn6,hz,hsm⟩ -
  obtain ⟨(s1:N.length=n),(s2:H.length=n),(s3:R.length=n),(s4:L.length=n),s5,s6⟩:=id hz
  have s5:∀ i,i<n→(L.getD i []).length=n:=s5
  have s6:∀ i j,i<n→j<n→(laneAt L i j).1.length≤1000:=s6
  have m2:∀ i j,∀ x∈(laneAt L i j).1,x≤1000000:=fun i j x hx=>((hsm.2 i j).1 x hx).2
  have hb:=fun w=>picS_le (L:=L) (w:=w) hn6 (fun i hi=>s5 i (by omega)) (fun i j hi hj=>⟨m2 i j,s6 i j (by omega) hj⟩)
  have hfin:picF (N,H,R,L,())=(H,(picS L (!decide (false∈R)) L.length).1,(picS L (!decide (false∈R)) L.length).2.1,N,(picS L (!decide (false∈R)) L.length).2.2,()):=rfl
  refine exec_sound (n:=1000) Epic_ok Fpic_ok ?_
  refine holds_of_eq (Epic_t N H R L) ?_
  have w8:Ty.wb (.int .i64)=8:=rfl
  have w24:Ty.wb (.slc true (.int .i64))=24:=rfl
  simp only [holds_cond,Tree.holds,true_and,true_implies,decide_eq_true_eq,decide_eq_false_iff_not,Bool.not_eq_true',Bool.not_eq_false',Int.toNat_natCast,inK_i64,List.length_set,List.length_cons,List.length_nil]
  generalize (!decide (false∈R))=W at *
  refine Reach.loopI Epic_ok Fpic_ok (fun i:Nat=>Epic_s3 L (L.length:Int) (i:Int) [] [] false [] 0 H (picS L W i).1 (picS L W i).2.1 N (picS L W i).2.2) (fun i=>i≤n) (fun i=>n - i) 1000 (fun _=>⟨uniq_of rfl,uniq_of rfl⟩) ?_ 0 (Nat.zero_le _)
  rintro i (k1:i≤n) - ih
  refine holds_of_eq (Epic_l3 ..) ?_
  simp only [holds_cond,Tree.holds,true_and,true_implies,decide_eq_true_eq,decide_eq_false_iff_not,Bool.not_eq_true',Bool.not_eq_false',Int.toNat_natCast,inK_i64,List.length_set,List.length_cons,List.length_nil]
  refine ⟨fun c=>⟨⟨by omega,by omega⟩,fun _=>?_⟩,fun c=>?_⟩
  · have hi:i<n:=by omega
    have hr:=s5 i hi
    have hpb:=hb W i (by omega)
    have next:=ih (i+1) (by omega) (by omega)
    have hrow:=fun j=>rowS_le (r:=L.getD i []) (p:=i) (s:=(picS L W i).2) (fun j hj=>⟨m2 i j,s6 i j hi (by omega)⟩) j
    have hpl:=picS_len (L:=L) (w:=W) i
    refine Reach.loopI Epic_ok Fpic_ok (fun j:Nat=>Epic_s7 (i:Int) L (L.length:Int) (i:Int) (L.getD i []) ((L.getD i []).length:Int) (j:Int) [] [] false [] 0 H (picS L W i).1 (rowS (L.getD i []) i (picS L W i).2 j).2.1 N (rowS (L.getD i []) i (picS L W i).2 j).2.2 (rowS (L.getD i []) i (picS L W i).2 j).1) (fun j=>j≤n) (fun j=>n - j) 1000 (fun _=>⟨uniq_of rfl,uniq_of rfl⟩) ?_ 0 (Nat.zero_le _)
    rintro j (k2:j≤n) - ih2
    refine holds_of_eq (Epic_l7 ..) ?_
    have hl:=rowS_len (r:=L.getD i []) (p:=i) (s:=(picS L W i).2) j
    simp only [holds_cond,Tree.holds,true_and,true_implies,decide_eq_true_eq,decide_eq_false_iff_not,Bool.not_eq_true',Bool.not_eq_false',Int.toNat_natCast,inK_i64,List.length_set,List.length_cons,List.length_nil,w8,w24]
    refine ⟨fun c2=>⟨⟨by omega,by omega⟩,fun _=>⟨⟨by omega,by omega⟩,fun _=>?_⟩⟩,fun c2=>⟨⟨by omega,by omega⟩,fun _=>⟨by omega,fun _=>?_⟩⟩⟩
    · have hj:j<n:=by omega
      have hub:=hrow j (by omega)
      have hlw:=s6 i j hi hj
      have next2:=ih2 (j+1) (by omega) (by omega)
      have inner:Go.Ex.Reach Epic Try.f21 (picF (N,H,R,L,()),()) () (.code (loopAt (bodyOf Try.prog 21) 12).1::.inLoop (loopAt (bodyOf Try.prog 21) 12).1::(loopAt (bodyOf Try.prog 21) 12).2) (Epic_s12 (i:Int) L (L.length:Int) (i:Int) (L.getD i []) ((L.getD i []).length:Int) (j:Int) (laneAt L i j).1 ((laneAt L i j).1.length:Int) ((0:Nat):Int) [] [] false [] 0 H (picS L W i).1 (rowS (L.getD i []) i (picS L W i).2 (j+1)).2.1 N (undF (rowS (L.getD i []) i (picS L W i).2 j).2.2 (laneAt L i j).1 0) (rowS (L.getD i []) i (picS L W i).2 (j+1)).1):=by
        refine Reach.loopI Epic_ok Fpic_ok (fun k:Nat=>Epic_s12 (i:Int) L (L.length:Int) (i:Int) (L.getD i []) ((L.getD i []).length:Int) (j:Int) (laneAt L i j).1 ((laneAt L i j).1.length:Int) (k:Int) [] [] false [] 0 H (picS L W i).1 (rowS (L.getD i []) i (picS L W i).2 (j+1)).2.1 N (undF (rowS (L.getD i []) i (picS L W i).2 j).2.2 (laneAt L i j).1 k) (rowS (L.getD i []) i (picS L W i).2 (j+1)).1) (fun k=>k≤(laneAt L i j).1.length) (fun k=>(laneAt L i j).1.length - k) 1000 (fun _=>⟨uniq_of rfl,uniq_of rfl⟩) ?_ 0 (Nat.zero_le _)
        rintro k (k3:k≤(laneAt L i j).1.length) - ih3
        refine holds_of_eq (Epic_l12 ..) ?_
        have hu:=undF_le (u:=(rowS (L.getD i []) i (picS L W i).2 j).2.2) (m2 i j) k k3
        simp only [holds_cond,Tree.holds,true_and,true_implies,decide_eq_true_eq,decide_eq_false_iff_not,Bool.not_eq_true',Bool.not_eq_false',Int.toNat_natCast,inK_i64,List.length_set,List.length_cons,List.length_nil]
        refine ⟨fun c3=>?_,fun c3=>⟨by omega,fun _=>?_⟩⟩
        · have hm:0≤mx ((laneAt L i j).1.getD k 0)∧mx ((laneAt L i j).1.getD k 0)≤1000000:=mx_le (m2 i j _ (getD_mem (by omega)))
          have next3:=ih3 (k+1) (by omega) (by omega)
          have e:∀ y:Int,(if y<0 then 0 else y)=mx y:=fun _=>rfl
          simp only [e]
          exact ⟨⟨by omega,by omega⟩,fun _=>⟨⟨by omega,by omega⟩,fun _=>⟨by omega,fun _=>next3⟩⟩⟩
        · have hk:k=(laneAt L i j).1.length:=by omega
          rw [hk]
          exact next2
      have hw:(rowS (L.getD i []) i (picS L W i).2 (j+1)).2.1=((rowS (L.getD i []) i (picS L W i).2 j).2.1 && (decide (i=j) || (laneAt L i j).2.1)):=rfl
      refine ⟨fun d=>⟨fun e=>?_,fun e=>?_⟩,fun d=>?_⟩
      · rw [show (rowS (L.getD i []) i (picS L W i).2 (j+1)).2.1=true by rw [hw,d,decide_eq_true (show i=j by omega)]; rfl] at inner
        exact inner
      · rw [show (rowS (L.getD i []) i (picS L W i).2 (j+1)).2.1=(laneAt L i j).2.1 by rw [hw,d,decide_eq_false (show ¬ i=j by omega)]; simp] at inner
        exact inner
      · rw [show (rowS (L.getD i []) i (picS L W i).2 (j+1)).2.1=false by rw [hw,d]; rfl] at inner
        exact inner
    · have hj:j=(L.getD i []).length:=by omega
      rw [hj]
      exact next
  · have hi:i=L.length:=by omega
    show ((_,()):PicD×Unit)=(picF (N,H,R,L,()),())
    rw [hfin,hi]
end Go.Proofs.Ytgmbfnlhmnpciaa
