/- FlushKeeps. No condition. -/
import Derived.Test.YtekbamiaenbhjaaFluA
namespace Go.Proofs.Ytekbamiaenbhjaa
open Go.Ex
set_option maxRecDepth 100000
theorem sum_len_take {α:Type}:∀ (l:List (List α)) (i:Nat),((l.take i).map List.length).sum≤l.flatten.length
  | [],i=>by simp
  | a::l,0=>by simp
  | a::l,i+1=>by have:=sum_len_take l i; simp only [List.take_succ_cons,List.map_cons,List.sum_cons,List.flatten_cons,List.length_append]; omega
theorem take_getD {α:Type} {l:List α} {i:Nat} (h:i<l.length) (d:α):l.take (i+1)=l.take i++[l.getD i d]:=by
  rw [List.take_add_one,List.getElem?_eq_getElem h,List.getD_eq_getElem?_getD,List.getElem?_eq_getElem h]; rfl
def cgrowI:Ctr:={ ps:=[.nilS,.v I64],rs:=[.slc true I64],pre:=fun x=>LE.le (α:=Int) 0 x.2.1∧LE.le (α:=Int) x.2.1 1048576,fn:=fun _=>([],()),out:=fun _=>() }
noncomputable def EgrowI:Env:={ P:=Try.prog,tt:=tt,ctr:=[],res:=[Go.ResultVar.tmp 4],rs:=[Ty.slc true (Ty.int IntKind.i64)],ps:=[PK.nilS,PK.v (Ty.int IntKind.i64)],cuts:=[],nt:=27 }
theorem EgrowI_ok:EnvOk EgrowI:=envOk tt_ok trivial
theorem FgrowI_ok:FnOk EgrowI Try.f125:=⟨rfl,rfl⟩
theorem EgrowI_t (x1:Int):exec EgrowI 1000 [.code (bodyOf Try.prog 125)] (initSt cgrowI.ps (((),x1,()))) =
  cond (decide (x1<(0:Int))) (.stuck "op") (.need (inK IntKind.i64 ((0:Int) - (0:Int))) (.need (inK IntKind.i64 (x1 - ((0:Int) - (0:Int)))) (cond (decide ((0:Int)<x1 - ((0:Int) - (0:Int)))) (.need ((0:Int)=(0:Int)∧(0:Int)=(0:Int)) (.need ((0:Int)≤x1 - ((0:Int) - (0:Int))∧x1 - ((0:Int) - (0:Int))≤(140737488355328:Int)∧(x1 - ((0:Int) - (0:Int)))*(↑(Ty.wb (Ty.int IntKind.i64)):Int)≤(140737488355328:Int)) (.need ((0:Int)≤(0:Int)∧(0:Int)≤(0:Int)∧(0:Int)≤(↑(List.length (List.replicate (Int.toNat (x1 - ((0:Int) - (0:Int)))) (0:Int))):Int)) (.ret ((cut2 (0:Int) (0:Int) (List.replicate (Int.toNat (x1 - ((0:Int) - (0:Int)))) (0:Int)),())))))) (.ret (([],())))))):=by kernel_rfl
theorem cgrowI_valid:cgrowI.Valid Try.prog 125:=by
  refine Ctr.valid_of EgrowI_ok rfl rfl Try.func125 (c:=bodyOf Try.prog 125) rfl rfl FgrowI_ok rfl ?_
  rintro ⟨⟨⟩,(n:Int),⟨⟩⟩ ⟨(h0:0≤n),(h1:n≤1048576)⟩ -
  refine exec_sound (n:=1000) EgrowI_ok FgrowI_ok ?_
  refine holds_of_eq (EgrowI_t n) ?_
  simp only [holds_cond,Tree.holds,true_and,true_implies,decide_eq_true_eq,decide_eq_false_iff_not,Bool.not_eq_true',Bool.not_eq_false',Int.toNat_natCast,inK_i64,List.length_set,List.length_cons,List.length_nil,wb_i64]
  refine ⟨fun h=>by omega,fun _=>⟨by omega,fun _=>⟨by omega,fun _=>⟨fun _=>⟨by omega,fun _=>⟨by omega,fun _=>?_⟩⟩,fun _=>rfl⟩⟩⟩⟩
  rfl
def cconI:Ctr:={ ps:=[.v (.slc false (.slc false I64))],rs:=[.slc true I64],pre:=fun x=>(List.flatten (α:=Int) x.1).length≤1048576,fn:=fun x=>(List.flatten (α:=Int) x.1,()),out:=fun _=>() }
noncomputable def EconI:Env:={ P:=Try.prog,tt:=tt,ctr:=[(125,cgrowI)],res:=[Go.ResultVar.tmp 2],rs:=[Ty.slc true (Ty.int IntKind.i64)],ps:=[PK.v (Ty.slc false (Ty.slc false (Ty.int IntKind.i64)))],cuts:=[(3,[(0,none),(3,none),(9,none),(10,none),(11,none)]),(11,[(6,some Is),(25,none),(26,none),(27,none)])],nt:=36 }
theorem EconI_ok:EnvOk EconI:=envOk tt_ok ⟨cgrowI_valid,trivial⟩
theorem FconI_ok:FnOk EconI Try.f18:=⟨rfl,rfl⟩
theorem EconI_t (x0:List (List Int)):exec EconI 1000 [.code (bodyOf Try.prog 18)] (initSt cconI.ps ((x0,()))) =
  .cut (loopAt (bodyOf Try.prog 18) 3).1 (loopAt (bodyOf Try.prog 18) 3).2 (St.mk [(0,AV.val (Ty.slc false (Ty.slc false (Ty.int IntKind.i64))) x0),(3,AV.val (Ty.int IntKind.i64) (0:Int)),(9,AV.val (Ty.slc false (Ty.slc false (Ty.int IntKind.i64))) x0),(10,AV.val (Ty.int IntKind.i64) (↑(List.length x0):Int)),(11,AV.val (Ty.int IntKind.i64) (0:Int))] []):=by kernel_rfl
def EconI_s3 (v0:List (List Int)) (v3:Int) (v9:List (List Int)) (v10:Int) (v11:Int):St:=St.mk [(0,AV.val (Ty.slc false (Ty.slc false (Ty.int IntKind.i64))) v0),(3,AV.val (Ty.int IntKind.i64) v3),(9,AV.val (Ty.slc false (Ty.slc false (Ty.int IntKind.i64))) v9),(10,AV.val (Ty.int IntKind.i64) v10),(11,AV.val (Ty.int IntKind.i64) v11)] []
theorem EconI_l3 (v0:List (List Int)) (v3:Int) (v9:List (List Int)) (v10:Int) (v11:Int):exec EconI 1000 (.code (loopAt (bodyOf Try.prog 18) 3).1::.inLoop (loopAt (bodyOf Try.prog 18) 3).1::(loopAt (bodyOf Try.prog 18) 3).2) (EconI_s3 v0 v3 v9 v10 v11) =
  cond (decide (v11<v10)) (.need ((0:Int)≤v11∧v11<(↑(List.length v9):Int)) (.need (inK IntKind.i64 (v3+(↑(List.length (List.getD v9 (Int.toNat v11) [])):Int))) (cond (decide (v3+(↑(List.length (List.getD v9 (Int.toNat v11) [])):Int)<(0:Int))) (.stuck "op") (.need (inK IntKind.i64 (v11+(1:Int))) (.cut (loopAt (bodyOf Try.prog 18) 3).1 (loopAt (bodyOf Try.prog 18) 3).2 (St.mk [(0,AV.val (Ty.slc false (Ty.slc false (Ty.int IntKind.i64))) v0),(3,AV.val (Ty.int IntKind.i64) (v3+(↑(List.length (List.getD v9 (Int.toNat v11) [])):Int))),(9,AV.val (Ty.slc false (Ty.slc false (Ty.int IntKind.i64))) v9),(10,AV.val (Ty.int IntKind.i64) v10),(11,AV.val (Ty.int IntKind.i64) (v11+(1:Int)))] [])))))) (.need ((0:Int)≤v3∧v3≤(1048576:Int)) (.cut (loopAt (bodyOf Try.prog 18) 11).1 (loopAt (bodyOf Try.prog 18) 11).2 (St.mk [(6,AV.at_ 1000006 []),(25,AV.val (Ty.slc false (Ty.slc false (Ty.int IntKind.i64))) v0),(26,AV.val (Ty.int IntKind.i64) (↑(List.length v0):Int)),(27,AV.val (Ty.int IntKind.i64) (0:Int))] [(1000006,Ent.own Is [])]))):=by kernel_rfl
def EconI_s11 (v25:List (List Int)) (v26:Int) (v27:Int) (o1000006:List Int):St:=St.mk [(6,AV.at_ 1000006 []),(25,AV.val (Ty.slc false (Ty.slc false (Ty.int IntKind.i64))) v25),(26,AV.val (Ty.int IntKind.i64) v26),(27,AV.val (Ty.int IntKind.i64) v27)] [(1000006,Ent.own Is o1000006)]
theorem EconI_l11 (v25:List (List Int)) (v26:Int) (v27:Int) (o1000006:List Int):exec EconI 1000 (.code (loopAt (bodyOf Try.prog 18) 11).1::.inLoop (loopAt (bodyOf Try.prog 18) 11).1::(loopAt (bodyOf Try.prog 18) 11).2) (EconI_s11 v25 v26 v27 o1000006) =
  cond (decide (v27<v26)) (.need ((0:Int)≤v27∧v27<(↑(List.length v25):Int)) (.need (List.length o1000006+List.length (List.getD v25 (Int.toNat v27) [])≤140737488355328∧(List.length o1000006+List.length (List.getD v25 (Int.toNat v27) []))*Ty.wb (Ty.int IntKind.i64)≤140737488355328) (.need (inK IntKind.i64 (v27+(1:Int))) (.cut (loopAt (bodyOf Try.prog 18) 11).1 (loopAt (bodyOf Try.prog 18) 11).2 (St.mk [(6,AV.at_ 1000006 []),(25,AV.val (Ty.slc false (Ty.slc false (Ty.int IntKind.i64))) v25),(26,AV.val (Ty.int IntKind.i64) v26),(27,AV.val (Ty.int IntKind.i64) (v27+(1:Int)))] [(1000006,Ent.own Is (o1000006++List.getD v25 (Int.toNat v27) []))]))))) (.ret ((o1000006,()))):=by kernel_rfl
theorem cconI_valid:cconI.Valid Try.prog 18:=by
  refine Ctr.valid_of EconI_ok rfl rfl Try.func18 (c:=bodyOf Try.prog 18) rfl rfl FconI_ok rfl ?_
  rintro ⟨(l:List (List (Int))),⟨⟩⟩ hp ⟨⟨hl,-⟩,-⟩
  have hl:l.length≤9223372036854775807:=hl
  have hp:l.flatten.length≤1048576:=hp
  refine exec_sound (n:=1000) EconI_ok FconI_ok ?_
  refine holds_of_eq (EconI_t l) ?_
  refine Reach.loopI EconI_ok FconI_ok (fun i:Nat=>EconI_s3 l (((l.take i).map List.length).sum:Nat) l (l.length:Int) (i:Int)) (fun i=>i≤l.length)
    (fun i=>l.length - i) 1000 (fun _=>⟨uniq_of rfl,uniq_of rfl⟩) ?_ 0 (Nat.zero_le _)
  rintro i k1 - ih
  have k1:i≤l.length:=k1
  refine holds_of_eq (EconI_l3 ..) ?_
  have hs:=sum_len_take l i
  simp only [holds_cond,Tree.holds,true_and,true_implies,decide_eq_true_eq,decide_eq_false_iff_not,Bool.not_eq_true',Bool.not_eq_false',Int.toNat_natCast,inK_i64,List.length_set,List.length_cons,List.length_nil]
  refine ⟨fun c=>⟨by omega,fun _=>?_⟩,fun c=>?_⟩
  · have tk:=take_getD (show i<l.length by omega) ([]:List (Int))
    have hs1:=sum_len_take l (i+1)
    have e1:((l.take (i+1)).map List.length).sum=((l.take i).map List.length).sum+(l.getD i []).length:=by rw [tk]; simp
    rw [e1] at hs1
    have:=ih (i+1) (by show i+1≤l.length; omega) (by omega)
    rw [e1] at this
    exact ⟨by omega,fun _=>⟨fun h=>by omega,fun _=>⟨by omega,fun _=>this⟩⟩⟩
  · refine ⟨by omega,fun _=>?_⟩
    refine Reach.loopI EconI_ok FconI_ok (fun i:Nat=>EconI_s11 l (l.length:Int) (i:Int) (l.take i).flatten) (fun i=>i≤l.length)
      (fun i=>l.length - i) 1000 (fun _=>⟨uniq_of rfl,uniq_of rfl⟩) ?_ 0 (Nat.zero_le _)
    rintro i k1 - ih
    have k1:i≤l.length:=k1
    refine holds_of_eq (EconI_l11 ..) ?_
    simp only [holds_cond,Tree.holds,true_and,true_implies,decide_eq_true_eq,decide_eq_false_iff_not,Bool.not_eq_true',Bool.not_eq_false',Int.toNat_natCast,inK_i64,List.length_set,List.length_cons,List.length_nil,wb_i64]
    refine ⟨fun c=>?_,fun c=>?_⟩
    · have tk:=take_getD (show i<l.length by omega) ([]:List (Int))
      have e1:(l.take (i+1)).flatten=(l.take i).flatten++l.getD i []:=by rw [tk]; simp
      have hb:((l.take i).flatten++l.getD i []).length≤l.flatten.length:=by
        rw [← e1]
        conv=>rhs; rw [← List.take_append_drop (i+1) l,List.flatten_append,List.length_append]
        omega
      rw [List.length_append] at hb
      have:=ih (i+1) (by show i+1≤l.length; omega) (by omega)
      rw [e1] at this
      exact ⟨by omega,fun _=>⟨by omega,fun _=>⟨by omega,fun _=>this⟩⟩⟩
    · rw [List.take_of_length_le (by omega)]
      rfl
theorem lft_bit {L:Int} (h:inK .u8 L) {p:Int} (h0:0≤p) (h1:p≤5):lft L p=if bit L p.toNat=true then 1 else 0:=by
  have g:=u8_in.1 h
  have key:∀ n:Fin 256,∀ q:Fin 6,lft ((n.val:Nat):Int) ((q.val:Nat):Int)=if bit ((n.val:Nat):Int) q.val=true then 1 else 0:=by decide +kernel
  have:=key ⟨L.toNat,by omega⟩ ⟨p.toNat,by omega⟩
  simp only [Int.toNat_of_nonneg g.1,Int.toNat_of_nonneg h0] at this
  exact this
theorem lft_sub {M g:Int} (hM:inK .u8 M) (hg:inK .u8 g) {p:Int} (h0:0≤p) (h1:p≤5) (h:lft (bAndNot .u8 M g) p≠0):lft M p≠0:=by
  rw [lft_bit andNot_in h0 h1,bit_andNot u8s hM hg] at h
  rw [lft_bit hM h0 h1]
  cases e:bit M p.toNat with
  | true=>simp
  | false=>rw [e] at h; simp at h
theorem ftell_bad {f:FlushD} {p m:Int} (h:(ftell f p m).2.1≠0):(ftell f p m).1=flush0:=by
  unfold ftell at h ⊢
  split
  · rfl
  rename_i c; rw [if_neg c] at h
  split
  · rfl
  rename_i c; rw [if_neg c] at h
  split
  · rfl
  rename_i c; rw [if_neg c] at h
  split
  · rfl
  rename_i c; rw [if_neg c] at h
  split
  · rfl
  rename_i c; rw [if_neg c] at h
  exact absurd rfl h
theorem ftell_ok {f:FlushD} {p m:Int} (h:(ftell f p m).2.1=0):fcheck f=0∧(0≤p∧p≤5)∧fmsg m=true∧flv f p≠0∧m∉f.2.2.1.getD p.toNat []∧(ftell f p m).1=(f.1,f.2.1,f.2.2.1.set p.toNat (f.2.2.1.getD p.toNat []++[m]),()):=by
  unfold ftell at h ⊢
  split at h
  · rename_i c; exact absurd h c
  rename_i c1; rw [if_neg c1]
  split at h
  · cases h
  rename_i c2; rw [if_neg c2]
  split at h
  · cases h
  rename_i c3; rw [if_neg c3]
  split at h
  · cases h
  rename_i c4; rw [if_neg c4]
  split at h
  · cases h
  rename_i c5; rw [if_neg c5]
  exact ⟨Decidable.not_not.1 c1,inF_iff.1 (by simpa using c2),by simpa using c3,c4,c5,rfl⟩
theorem firstE_congr {f g:Nat→Int}:∀ {n:Nat},(∀ k,k<n→f k=g k)→firstE f n=firstE g n
  | 0,_=>rfl
  | n+1,h=>by rw [firstE,firstE,firstE_congr (fun k hk=>h k (by omega)),h n (by omega)]
theorem fcheck_more {v:ViewD} {g:Int} {T:List (List Int)} {p m:Int} (hT:T.length=6) (hM:inK .u8 v.2.1) (hg:inK .u8 g) (h:fcheck (v,g,T,())=0) (hp:0≤p∧p≤5) (hm:fmsg m=true) (hl:flv (v,g,T,()) p≠0) (hn:m∉T.getD p.toNat [])
    (h30:((T.getD p.toNat []++[m]).length:Int)≤30):fcheck (v,g,T.set p.toNat (T.getD p.toNat []++[m]),())=0:=by
  unfold fcheck at h ⊢
  split at h
  · rename_i c; exact absurd h c
  rename_i c1; rw [if_neg c1]
  split at h
  · cases h
  rename_i c2; rw [if_neg c2]
  have h:=firstE_zero.1 h
  refine firstE_zero.2 (fun i hi=>?_)
  have hi':=h i hi
  have hl2:lft v.2.1 p≠0:=lft_sub hM hg hp.1 hp.2 hl
  show toldE v.2.1 (T.set p.toNat (T.getD p.toNat []++[m])) i=0
  have hi':toldE v.2.1 T i=0:=hi'
  unfold toldE at hi' ⊢
  rw [getD_set (by omega)]
  by_cases e:i=p.toNat
  · subst e
    have ep:((p.toNat:Nat):Int)=p:=Int.toNat_of_nonneg hp.1
    rw [if_pos rfl,if_neg (by omega),if_neg (fun hc=>hl2 (by rw [← ep]; exact hc.2))]
    generalize hL:T.getD p.toNat []=l at *
    have hmsg:firstE (msgE l) l.length=0:=by
      split at hi'
      · cases hi'
      split at hi'
      · cases hi'
      exact hi'
    rw [List.length_append]
    show firstE (msgE (l++[m])) (l.length+1)=0
    have e1:firstE (msgE (l++[m])) l.length=firstE (msgE l) l.length:=firstE_congr (fun k hk=>by
      unfold msgE
      rw [getD_app_left hk,List.take_append_of_le_length (by omega)])
    refine firstE_step (by rw [e1,hmsg]) ?_
    unfold msgE
    rw [getD_app_last,if_neg (by rw [hm]; simp),List.take_left,if_neg hn]
  · rw [if_neg e]; exact hi'
def cFlushKeeps:Ctr:={ ps:=[.v Flush,.v I64,.v I64],rs:=[.bool],pre:=fun _=>True,fn:=fun _=>(true,()),out:=fun _=>() }
noncomputable def EFlushKeeps:Env:={ P:=Try.prog,tt:=tt,ctr:=[(14,cfnew),(15,cffall),(16,cftell),(17,cfcheck),(18,cconI),(19,ceqI)],res:=[Go.ResultVar.tmp 6],rs:=[Ty.bool],ps:=[PK.v (Ty.pair (Ty.pair (Ty.int IntKind.i64) (Ty.pair (Ty.int IntKind.u8) Ty.unit)) (Ty.pair (Ty.int IntKind.u8) (Ty.pair (Ty.arr 6 (Ty.slc false (Ty.int IntKind.i64))) Ty.unit))),PK.v (Ty.int IntKind.i64),PK.v (Ty.int IntKind.i64)],cuts:=[(16,[(1,none),(2,none),(3,none),(11,none),(77,none)])],nt:=100 }
theorem EFlushKeeps_ok:EnvOk EFlushKeeps:=envOk tt_ok ⟨cfnew_valid,cffall_valid,cftell_valid,cfcheck_valid,cconI_valid,ceqI_valid,trivial⟩
theorem FFlushKeeps_ok:FnOk EFlushKeeps Try.f3:=⟨rfl,rfl⟩
theorem EFlushKeeps_t (x0_1_1:Int) (x0_1_2_1:Int) (x0_2_1:Int) (x0_2_2_1:List (List Int)) (x1:Int) (x2:Int):exec EFlushKeeps 1000 [.code (bodyOf Try.prog 3)] (initSt cFlushKeeps.ps ((((x0_1_1,x0_1_2_1,()),x0_2_1,x0_2_2_1,()),x1,x2,()))) =
  .need (True) (.need (True) (.need (True) (.need (True) (cond (decide (Prod.fst (Prod.snd (ftell ((x0_1_1,x0_1_2_1,()),x0_2_1,x0_2_2_1,()) x1 x2))≠(0:Int))) (.ret ((eqD (Ty.pair I64 (Ty.pair U8 Ty.unit)) (Prod.fst (Prod.fst (ftell ((x0_1_1,x0_1_2_1,()),x0_2_1,x0_2_2_1,()) x1 x2))) ((0:Int),(0:Int),()),()))) (cond (!eqD (Ty.pair I64 (Ty.pair U8 Ty.unit)) (Prod.fst (Prod.fst (ftell ((x0_1_1,x0_1_2_1,()),x0_2_1,x0_2_2_1,()) x1 x2))) (x0_1_1,x0_1_2_1,())) (.ret ((false,()))) (cond (decide (Prod.fst (Prod.snd (Prod.fst (ftell ((x0_1_1,x0_1_2_1,()),x0_2_1,x0_2_2_1,()) x1 x2)))≠x0_2_1)) (.ret ((false,()))) (.need (True) (cond (decide (fcheck (Prod.fst (ftell ((x0_1_1,x0_1_2_1,()),x0_2_1,x0_2_2_1,()) x1 x2))≠(0:Int))) (.need ((0:Int)≤x1∧x1<(↑6:Int)) (cond (decide ((↑(List.length (List.getD (Prod.fst (Prod.snd (Prod.snd (Prod.fst (ftell ((x0_1_1,x0_1_2_1,()),x0_2_1,x0_2_2_1,()) x1 x2))))) (Int.toNat x1) [])):Int)≤(30:Int))) (.ret ((false,()))) (.cut (loopAt (bodyOf Try.prog 3) 16).1 (loopAt (bodyOf Try.prog 3) 16).2 (St.mk [(1,AV.val (Ty.int IntKind.i64) x1),(2,AV.val (Ty.int IntKind.i64) x2),(3,AV.ptr 3 []),(11,AV.ptr 11 []),(77,AV.val (Ty.int IntKind.i64) (0:Int))] [(3,Ent.var (Ty.pair (Ty.pair (Ty.int IntKind.i64) (Ty.pair (Ty.int IntKind.u8) Ty.unit)) (Ty.pair (Ty.int IntKind.u8) (Ty.pair (Ty.arr 6 (Ty.slc false (Ty.int IntKind.i64))) Ty.unit))) ((x0_1_1,x0_1_2_1,()),x0_2_1,x0_2_2_1,())),(11,Ent.var (Ty.pair (Ty.pair (Ty.int IntKind.i64) (Ty.pair (Ty.int IntKind.u8) Ty.unit)) (Ty.pair (Ty.int IntKind.u8) (Ty.pair (Ty.arr 6 Is) Ty.unit))) (Prod.fst (ftell ((x0_1_1,x0_1_2_1,()),x0_2_1,x0_2_2_1,()) x1 x2)))])))) (.cut (loopAt (bodyOf Try.prog 3) 16).1 (loopAt (bodyOf Try.prog 3) 16).2 (St.mk [(1,AV.val (Ty.int IntKind.i64) x1),(2,AV.val (Ty.int IntKind.i64) x2),(3,AV.ptr 3 []),(11,AV.ptr 11 []),(77,AV.val (Ty.int IntKind.i64) (0:Int))] [(3,Ent.var (Ty.pair (Ty.pair (Ty.int IntKind.i64) (Ty.pair (Ty.int IntKind.u8) Ty.unit)) (Ty.pair (Ty.int IntKind.u8) (Ty.pair (Ty.arr 6 (Ty.slc false (Ty.int IntKind.i64))) Ty.unit))) ((x0_1_1,x0_1_2_1,()),x0_2_1,x0_2_2_1,())),(11,Ent.var (Ty.pair (Ty.pair (Ty.int IntKind.i64) (Ty.pair (Ty.int IntKind.u8) Ty.unit)) (Ty.pair (Ty.int IntKind.u8) (Ty.pair (Ty.arr 6 Is) Ty.unit))) (Prod.fst (ftell ((x0_1_1,x0_1_2_1,()),x0_2_1,x0_2_2_1,()) x1 x2)))])))))))))):=by kernel_rfl
def EFlushKeeps_s16 (v1:Int) (v2:Int) (v77:Int) (o3_1_1:Int) (o3_1_2_1:Int) (o3_2_1:Int) (o3_2_2_1:List (List Int)) (o11_1_1:Int) (o11_1_2_1:Int) (o11_2_1:Int) (o11_2_2_1:List (List Int)):St:=St.mk [(1,AV.val (Ty.int IntKind.i64) v1),(2,AV.val (Ty.int IntKind.i64) v2),(3,AV.ptr 3 []),(11,AV.ptr 11 []),(77,AV.val (Ty.int IntKind.i64) v77)] [(3,Ent.var (Ty.pair (Ty.pair (Ty.int IntKind.i64) (Ty.pair (Ty.int IntKind.u8) Ty.unit)) (Ty.pair (Ty.int IntKind.u8) (Ty.pair (Ty.arr 6 (Ty.slc false (Ty.int IntKind.i64))) Ty.unit))) ((o3_1_1,o3_1_2_1,()),o3_2_1,o3_2_2_1,())),(11,Ent.var (Ty.pair (Ty.pair (Ty.int IntKind.i64) (Ty.pair (Ty.int IntKind.u8) Ty.unit)) (Ty.pair (Ty.int IntKind.u8) (Ty.pair (Ty.arr 6 Is) Ty.unit))) ((o11_1_1,o11_1_2_1,()),o11_2_1,o11_2_2_1,()))]
theorem EFlushKeeps_l16 (v1:Int) (v2:Int) (v77:Int) (o3_1_1:Int) (o3_1_2_1:Int) (o3_2_1:Int) (o3_2_2_1:List (List Int)) (o11_1_1:Int) (o11_1_2_1:Int) (o11_2_1:Int) (o11_2_2_1:List (List Int)):exec EFlushKeeps 1000 (.code (loopAt (bodyOf Try.prog 3) 16).1::.inLoop (loopAt (bodyOf Try.prog 3) 16).1::(loopAt (bodyOf Try.prog 3) 16).2) (EFlushKeeps_s16 v1 v2 v77 o3_1_1 o3_1_2_1 o3_2_1 o3_2_2_1 o11_1_1 o11_1_2_1 o11_2_1 o11_2_2_1) =
  cond (decide (v77<(6:Int))) (.need ((0:Int)≤v77∧v77<(↑6:Int)) (cond (decide (v77=v1)) (.need (List.length (List.flatten (List.set (List.set [[],[]] (Int.toNat (↑0:Int)) (List.getD o3_2_2_1 (Int.toNat v77) [])) (Int.toNat (↑1:Int)) (List.set [(0:Int)] (Int.toNat (↑0:Int)) v2)))≤1048576) (.need ((0:Int)≤v77∧v77<(↑6:Int)) (.need (True) (cond (!decide (List.getD o11_2_2_1 (Int.toNat v77) []=List.flatten (List.set (List.set [[],[]] (Int.toNat (↑0:Int)) (List.getD o3_2_2_1 (Int.toNat v77) [])) (Int.toNat (↑1:Int)) (List.set [(0:Int)] (Int.toNat (↑0:Int)) v2)))) (.ret ((false,()))) (.need (inK IntKind.i64 (v77+(1:Int))) (.cut (loopAt (bodyOf Try.prog 3) 16).1 (loopAt (bodyOf Try.prog 3) 16).2 (St.mk [(1,AV.val (Ty.int IntKind.i64) v1),(2,AV.val (Ty.int IntKind.i64) v2),(3,AV.ptr 3 []),(11,AV.ptr 11 []),(77,AV.val (Ty.int IntKind.i64) (v77+(1:Int)))] [(3,Ent.var (Ty.pair (Ty.pair (Ty.int IntKind.i64) (Ty.pair (Ty.int IntKind.u8) Ty.unit)) (Ty.pair (Ty.int IntKind.u8) (Ty.pair (Ty.arr 6 (Ty.slc false (Ty.int IntKind.i64))) Ty.unit))) ((o3_1_1,o3_1_2_1,()),o3_2_1,o3_2_2_1,())),(11,Ent.var (Ty.pair (Ty.pair (Ty.int IntKind.i64) (Ty.pair (Ty.int IntKind.u8) Ty.unit)) (Ty.pair (Ty.int IntKind.u8) (Ty.pair (Ty.arr 6 Is) Ty.unit))) ((o11_1_1,o11_1_2_1,()),o11_2_1,o11_2_2_1,()))]))))))) (.need ((0:Int)≤v77∧v77<(↑6:Int)) (.need (True) (cond (!decide (List.getD o11_2_2_1 (Int.toNat v77) []=List.getD o3_2_2_1 (Int.toNat v77) [])) (.ret ((false,()))) (.need (inK IntKind.i64 (v77+(1:Int))) (.cut (loopAt (bodyOf Try.prog 3) 16).1 (loopAt (bodyOf Try.prog 3) 16).2 (St.mk [(1,AV.val (Ty.int IntKind.i64) v1),(2,AV.val (Ty.int IntKind.i64) v2),(3,AV.ptr 3 []),(11,AV.ptr 11 []),(77,AV.val (Ty.int IntKind.i64) (v77+(1:Int)))] [(3,Ent.var (Ty.pair (Ty.pair (Ty.int IntKind.i64) (Ty.pair (Ty.int IntKind.u8) Ty.unit)) (Ty.pair (Ty.int IntKind.u8) (Ty.pair (Ty.arr 6 (Ty.slc false (Ty.int IntKind.i64))) Ty.unit))) ((o3_1_1,o3_1_2_1,()),o3_2_1,o3_2_2_1,())),(11,Ent.var (Ty.pair (Ty.pair (Ty.int IntKind.i64) (Ty.pair (Ty.int IntKind.u8) Ty.unit)) (Ty.pair (Ty.int IntKind.u8) (Ty.pair (Ty.arr 6 Is) Ty.unit))) ((o11_1_1,o11_1_2_1,()),o11_2_1,o11_2_2_1,()))])))))))) (.ret ((true,()))):=by kernel_rfl
theorem eqView {a b c d:Int}:eqD (.pair I64 (.pair U8 .unit)) (a,b,()) (c,d,())=true↔a=c∧b=d:=by
  show (decide (a=c) && (decide (b=d) && true))=true↔_
  simp
theorem cFlushKeeps_valid:cFlushKeeps.Valid Try.prog 3:=by
  refine Ctr.valid_of EFlushKeeps_ok rfl rfl Try.func3 (c:=bodyOf Try.prog 3) rfl rfl FFlushKeeps_ok rfl ?_
  rintro ⟨⟨⟨(num:Int),(M:Int),⟨⟩⟩,(g:Int),(T:List (List Int)),⟨⟩⟩,(p:Int),(m:Int),⟨⟩⟩ - ⟨⟨⟨-,hM,-⟩,hg,⟨(hT:T.length=6),-⟩,-⟩,-⟩
  have hM:inK .u8 M:=hM
  have hg:inK .u8 g:=hg
  refine exec_sound (n:=1000) EFlushKeeps_ok FFlushKeeps_ok ?_
  refine holds_of_eq (EFlushKeeps_t num M g T p m) ?_
  have hbad:=ftell_bad (f:=((num,M,()),g,T,())) (p:=p) (m:=m)
  have hok:=ftell_ok (f:=((num,M,()),g,T,())) (p:=p) (m:=m)
  generalize ftell ((num,M,()),g,T,()) p m=r at *
  obtain ⟨h,e,⟨⟩⟩:=r
  simp only [holds_cond,Tree.holds,true_and,true_implies,decide_eq_true_eq,decide_eq_false_iff_not,Bool.not_eq_true',Bool.not_eq_false',Int.toNat_natCast,inK_i64,List.length_set,List.length_cons,List.length_nil]
  simp only at hbad hok
  refine ⟨fun a=>?_,fun a=>?_⟩
  · rw [hbad a]; rfl
  obtain ⟨h1,h2,h3,h4,h5,h6⟩:=hok (Decidable.not_not.1 a)
  subst h6
  have v0:eqD (Ty.pair I64 (Ty.pair U8 Ty.unit)) (num,M,()) (num,M,())=true:=eqView.2 ⟨rfl,rfl⟩
  have hp:p.toNat<T.length:=by omega
  have hg0:(T.set p.toNat (T.getD p.toNat []++[m])).getD p.toNat []=T.getD p.toNat []++[m]:=by rw [getD_set hp,if_pos rfl]
  have loop:Go.Ex.Reach EFlushKeeps Try.f3 (true,()) () (.code (loopAt (bodyOf Try.prog 3) 16).1::.inLoop (loopAt (bodyOf Try.prog 3) 16).1::(loopAt (bodyOf Try.prog 3) 16).2) (EFlushKeeps_s16 p m ((0:Nat):Int) num M g T num M g (T.set p.toNat (T.getD p.toNat []++[m]))):=by
    refine Reach.loopI EFlushKeeps_ok FFlushKeeps_ok (fun q:Nat=>EFlushKeeps_s16 p m (q:Int) num M g T num M g (T.set p.toNat (T.getD p.toNat []++[m]))) (fun q=>q≤6) (fun q=>6 - q) 1000 (fun _=>⟨uniq_of rfl,uniq_of rfl⟩) ?_ 0 (by decide)
    rintro q hq - ih
    have hq:q≤6:=hq
    refine holds_of_eq (EFlushKeeps_l16 ..) ?_
    have e0:List.flatten (List.set (List.set [([]:List Int),[]] (Int.toNat (0:Int)) (T.getD q [])) (Int.toNat (1:Int)) (List.set [0] (Int.toNat (0:Int)) m))=T.getD q []++[m]:=by
      show T.getD q []++([m]++[])=T.getD q []++[m]
      rw [List.append_nil]
    have nx:q<6→_:=fun h=>ih (q+1) (by show q+1≤6; omega) (by omega)
    have hT2:=told_len hT h1
    simp only [holds_cond,Tree.holds,true_and,true_implies,decide_eq_true_eq,decide_eq_false_iff_not,Bool.not_eq_true',Bool.not_eq_false',Int.toNat_natCast,inK_i64,List.length_set,List.length_cons,List.length_nil,e0]
    refine ⟨fun c=>⟨by omega,fun _=>⟨fun c2=>?_,fun c2=>?_⟩⟩,fun c=>rfl⟩
    · have hqp:q=p.toNat:=by omega
      have hlt:(T.getD q []).length≤30:=hT2 _ (getD_mem (by omega))
      refine ⟨by rw [List.length_append]; show _+1≤_; omega,fun _=>⟨by omega,fun _=>⟨fun c3=>?_,fun c3=>⟨by omega,fun _=>nx (by omega)⟩⟩⟩⟩
      rw [hqp,hg0] at c3; exact absurd rfl c3
    · have hqp:q≠p.toNat:=fun h=>c2 (by omega)
      refine ⟨by omega,fun _=>⟨fun c3=>?_,fun c3=>⟨by omega,fun _=>nx (by omega)⟩⟩⟩
      rw [getD_set hp,if_neg hqp] at c3; exact absurd rfl c3
  refine ⟨fun c=>(by rw [v0] at c; cases c),fun _=>⟨fun c=>absurd rfl c,fun _=>⟨fun c=>⟨by omega,fun _=>⟨fun c2=>?_,fun _=>loop⟩⟩,fun _=>loop⟩⟩⟩
  rw [hg0] at c2
  exact absurd (fcheck_more hT hM hg h1 h2 h3 h4 h5 c2) c
end Go.Proofs.Ytekbamiaenbhjaa
