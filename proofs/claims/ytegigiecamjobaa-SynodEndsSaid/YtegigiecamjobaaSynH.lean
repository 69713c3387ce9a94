/- SynodEnds. No condition. -/
import Derived.Test.YtegigiecamjobaaSynG
namespace Go.Proofs.Ytegigiecamjobaa
open Go.Ex Go.Sort
set_option maxRecDepth 100000
def cSynodEnds:Ctr:={ ps:=[.v I64,.v (.slc false Act),.v .str],rs:=[.bool],pre:=fun _=>True,fn:=fun _=>(true,()),out:=fun _=>() }
noncomputable def ESynodEnds:Env:={ P:=Try.prog,tt:=tt,ctr:=[(49,cfew),(46,cvoted),(47,cone),(48,cchosen),(42,ceqS),(56,cconA),(23,cstep)],res:=[Go.ResultVar.tmp 6],rs:=[Ty.bool],ps:=[PK.v (Ty.int IntKind.i64),PK.v (Ty.slc false (Ty.pair (Ty.int IntKind.i64) (Ty.pair (Ty.int IntKind.i64) (Ty.pair (Ty.int IntKind.i64) (Ty.pair Ty.str Ty.unit))))),PK.v Ty.str],cuts:=[(13,[(0,none),(2,none),(12,none),(15,none),(62,none),(63,none),(64,none)]),(21,[(12,none),(18,some (Ty.slc true Ty.str)),(97,some (Ty.slc true (Ty.pair (Ty.int IntKind.i64) (Ty.pair (Ty.int IntKind.i64) (Ty.pair (Ty.int IntKind.i64) (Ty.pair Ty.str Ty.unit)))))),(98,none),(99,none)])],nt:=139 }
theorem ESynodEnds_ok:EnvOk ESynodEnds:=envOk tt_ok ⟨cfew_valid,cvoted_valid,cone_valid,cchosen_valid,ceqS_valid,cconA_valid,cstep_valid,trivial⟩
theorem FSynodEnds_ok:FnOk ESynodEnds Try.f16:=⟨rfl,rfl⟩
theorem ESynodEnds_t (x0:Int) (x1:List (Int×Int×Int×List UInt8×Unit)) (x2:List UInt8):exec ESynodEnds 1000 [.code (bodyOf Try.prog 16)] (initSt cSynodEnds.ps ((x0,x1,x2,()))) =
  .need ((0:Int)≤(2:Int)∧(2:Int)≤(10:Int)) (.need ((0:Int)≤(2:Int)∧(2:Int)≤(10:Int)) (.need (List.length (List.flatten (List.set (List.set [[],[]] (Int.toNat (↑0:Int)) (oneF (1:Int) (2:Int) (Array.toList (ByteArray.data (ByteArray.mk #[(120:UInt8)]))))) (Int.toNat (↑1:Int)) (oneF (2:Int) (2:Int) (Array.toList (ByteArray.data (ByteArray.mk #[(121:UInt8)]))))))≤1048576) (.need ((1:Int)≤(2:Int)∧(2:Int)≤(6:Int)) (.need (scheck (Prod.fst (votF (2:Int) (List.flatten (List.set (List.set [[],[]] (Int.toNat (↑0:Int)) (oneF (1:Int) (2:Int) (Array.toList (ByteArray.data (ByteArray.mk #[(120:UInt8)]))))) (Int.toNat (↑1:Int)) (oneF (2:Int) (2:Int) (Array.toList (ByteArray.data (ByteArray.mk #[(121:UInt8)]))))))))=(0:Int)→∀ (a:List UInt8),a∈chosenL (Prod.fst (votF (2:Int) (List.flatten (List.set (List.set [[],[]] (Int.toNat (↑0:Int)) (oneF (1:Int) (2:Int) (Array.toList (ByteArray.data (ByteArray.mk #[(120:UInt8)]))))) (Int.toNat (↑1:Int)) (oneF (2:Int) (2:Int) (Array.toList (ByteArray.data (ByteArray.mk #[(121:UInt8)]))))))))→∀ (b:List UInt8),b∈chosenL (Prod.fst (votF (2:Int) (List.flatten (List.set (List.set [[],[]] (Int.toNat (↑0:Int)) (oneF (1:Int) (2:Int) (Array.toList (ByteArray.data (ByteArray.mk #[(120:UInt8)]))))) (Int.toNat (↑1:Int)) (oneF (2:Int) (2:Int) (Array.toList (ByteArray.data (ByteArray.mk #[(121:UInt8)]))))))))→a=b) (.need (True) (.need (True) (.need ((1:Int)≤few x0∧few x0≤(6:Int)) (.cut (loopAt (bodyOf Try.prog 16) 13).1 (loopAt (bodyOf Try.prog 16) 13).2 (St.mk [(0,AV.val (Ty.int IntKind.i64) (few x0)),(2,AV.val Ty.str x2),(12,AV.ptr 12 []),(15,AV.val (Ty.int IntKind.i64) (0:Int)),(62,AV.at_ 12 [Step.fld 1]),(63,AV.val (Ty.int IntKind.i64) (↑(List.length (Prod.fst (Prod.snd (Prod.fst (votF (few x0) x1))))):Int)),(64,AV.val (Ty.int IntKind.i64) (0:Int))] [(12,Ent.var (Ty.pair (Ty.slc true (Ty.pair (Ty.int IntKind.i64) (Ty.pair (Ty.int IntKind.i64) (Ty.pair Ty.str Ty.unit)))) (Ty.pair (Ty.slc true (Ty.pair (Ty.int IntKind.i64) (Ty.pair (Ty.int IntKind.i64) (Ty.pair (Ty.int IntKind.u8) (Ty.pair (Ty.int IntKind.u8) (Ty.pair Ty.bool (Ty.pair Ty.str Ty.unit))))))) Ty.unit)) (Prod.fst (votF (few x0) x1)))]))))))))):=by kernel_rfl
def ESynodEnds_s13 (v0:Int) (v2:List UInt8) (v15:Int) (v63:Int) (v64:Int) (o12_1:List (Int×Int×List UInt8×Unit)) (o12_2_1:List (Int×Int×Int×Int×Bool×List UInt8×Unit)):St:=St.mk [(0,AV.val (Ty.int IntKind.i64) v0),(2,AV.val Ty.str v2),(12,AV.ptr 12 []),(15,AV.val (Ty.int IntKind.i64) v15),(62,AV.at_ 12 [Step.fld 1]),(63,AV.val (Ty.int IntKind.i64) v63),(64,AV.val (Ty.int IntKind.i64) v64)] [(12,Ent.var (Ty.pair (Ty.slc true (Ty.pair (Ty.int IntKind.i64) (Ty.pair (Ty.int IntKind.i64) (Ty.pair Ty.str Ty.unit)))) (Ty.pair (Ty.slc true (Ty.pair (Ty.int IntKind.i64) (Ty.pair (Ty.int IntKind.i64) (Ty.pair (Ty.int IntKind.u8) (Ty.pair (Ty.int IntKind.u8) (Ty.pair Ty.bool (Ty.pair Ty.str Ty.unit))))))) Ty.unit)) (o12_1,o12_2_1,()))]
theorem ESynodEnds_l13 (v0:Int) (v2:List UInt8) (v15:Int) (v63:Int) (v64:Int) (o12_1:List (Int×Int×List UInt8×Unit)) (o12_2_1:List (Int×Int×Int×Int×Bool×List UInt8×Unit)):exec ESynodEnds 1000 (.code (loopAt (bodyOf Try.prog 16) 13).1::.inLoop (loopAt (bodyOf Try.prog 16) 13).1::(loopAt (bodyOf Try.prog 16) 13).2) (ESynodEnds_s13 v0 v2 v15 v63 v64 o12_1 o12_2_1) =
  cond (decide (v64<v63)) (.need ((0:Int)≤v64∧v64<(↑(List.length o12_2_1):Int)) (.need (inK IntKind.i64 (v64+(1:Int))) (.cut (loopAt (bodyOf Try.prog 16) 13).1 (loopAt (bodyOf Try.prog 16) 13).2 (St.mk [(0,AV.val (Ty.int IntKind.i64) v0),(2,AV.val Ty.str v2),(12,AV.ptr 12 []),(15,AV.val (Ty.int IntKind.i64) (if v15<Prod.fst (List.getD o12_2_1 (Int.toNat v64) ((0:Int),(0:Int),(0:Int),(0:Int),false,[],())) then Prod.fst (List.getD o12_2_1 (Int.toNat v64) ((0:Int),(0:Int),(0:Int),(0:Int),false,[],())) else v15)),(62,AV.at_ 12 [Step.fld 1]),(63,AV.val (Ty.int IntKind.i64) v63),(64,AV.val (Ty.int IntKind.i64) (v64+(1:Int)))] [(12,Ent.var (Ty.pair (Ty.slc true (Ty.pair (Ty.int IntKind.i64) (Ty.pair (Ty.int IntKind.i64) (Ty.pair Ty.str Ty.unit)))) (Ty.pair (Ty.slc true (Ty.pair (Ty.int IntKind.i64) (Ty.pair (Ty.int IntKind.i64) (Ty.pair (Ty.int IntKind.u8) (Ty.pair (Ty.int IntKind.u8) (Ty.pair Ty.bool (Ty.pair Ty.str Ty.unit))))))) Ty.unit)) (o12_1,o12_2_1,()))])))) (cond (decide (v15=(16777215:Int))) (.ret ((true,()))) (cond (decide ((↑(List.length o12_2_1):Int)=(30:Int))) (.ret ((true,()))) (cond (decide ((200:Int)<(↑(List.length v2):Int))) (.ret ((true,()))) (.need (scheck (o12_1,o12_2_1,())=(0:Int)→∀ (a:List UInt8),a∈chosenL (o12_1,o12_2_1,())→∀ (b:List UInt8),b∈chosenL (o12_1,o12_2_1,())→a=b) (.need (inK IntKind.i64 (v15+(1:Int))) (.need ((0:Int)<(2:Int)) (.need (inK IntKind.i64 (Int.tdiv v0 (2:Int)+(1:Int))) (.need ((0:Int)≤Int.tdiv v0 (2:Int)+(1:Int)∧Int.tdiv v0 (2:Int)+(1:Int)≤(10:Int)) (.cut (loopAt (bodyOf Try.prog 16) 21).1 (loopAt (bodyOf Try.prog 16) 21).2 (St.mk [(12,AV.ptr 12 []),(18,AV.at_ 1000018 []),(97,AV.at_ 1000097 []),(98,AV.val (Ty.int IntKind.i64) (↑(List.length (oneF (v15+(1:Int)) (Int.tdiv v0 (2:Int)+(1:Int)) v2)):Int)),(99,AV.val (Ty.int IntKind.i64) (0:Int))] [(12,Ent.var (Ty.pair (Ty.slc true (Ty.pair (Ty.int IntKind.i64) (Ty.pair (Ty.int IntKind.i64) (Ty.pair Ty.str Ty.unit)))) (Ty.pair (Ty.slc true (Ty.pair (Ty.int IntKind.i64) (Ty.pair (Ty.int IntKind.i64) (Ty.pair (Ty.int IntKind.u8) (Ty.pair (Ty.int IntKind.u8) (Ty.pair Ty.bool (Ty.pair Ty.str Ty.unit))))))) Ty.unit)) (o12_1,o12_2_1,())),(1000018,Ent.own (Ty.slc true Ty.str) (Prod.fst (chosenR (o12_1,o12_2_1,())))),(1000097,Ent.own (Ty.slc true (Ty.pair (Ty.int IntKind.i64) (Ty.pair (Ty.int IntKind.i64) (Ty.pair (Ty.int IntKind.i64) (Ty.pair Ty.str Ty.unit))))) (oneF (v15+(1:Int)) (Int.tdiv v0 (2:Int)+(1:Int)) v2))])))))))))):=by kernel_rfl
def ESynodEnds_s21 (v98:Int) (v99:Int) (o12_1:List (Int×Int×List UInt8×Unit)) (o12_2_1:List (Int×Int×Int×Int×Bool×List UInt8×Unit)) (o1000018:List (List UInt8)) (o1000097:List (Int×Int×Int×List UInt8×Unit)):St:=St.mk [(12,AV.ptr 12 []),(18,AV.at_ 1000018 []),(97,AV.at_ 1000097 []),(98,AV.val (Ty.int IntKind.i64) v98),(99,AV.val (Ty.int IntKind.i64) v99)] [(12,Ent.var (Ty.pair (Ty.slc true (Ty.pair (Ty.int IntKind.i64) (Ty.pair (Ty.int IntKind.i64) (Ty.pair Ty.str Ty.unit)))) (Ty.pair (Ty.slc true (Ty.pair (Ty.int IntKind.i64) (Ty.pair (Ty.int IntKind.i64) (Ty.pair (Ty.int IntKind.u8) (Ty.pair (Ty.int IntKind.u8) (Ty.pair Ty.bool (Ty.pair Ty.str Ty.unit))))))) Ty.unit)) (o12_1,o12_2_1,())),(1000018,Ent.own (Ty.slc true Ty.str) o1000018),(1000097,Ent.own (Ty.slc true (Ty.pair (Ty.int IntKind.i64) (Ty.pair (Ty.int IntKind.i64) (Ty.pair (Ty.int IntKind.i64) (Ty.pair Ty.str Ty.unit))))) o1000097)]
theorem ESynodEnds_l21 (v98:Int) (v99:Int) (o12_1:List (Int×Int×List UInt8×Unit)) (o12_2_1:List (Int×Int×Int×Int×Bool×List UInt8×Unit)) (o1000018:List (List UInt8)) (o1000097:List (Int×Int×Int×List UInt8×Unit)):exec ESynodEnds 1000 (.code (loopAt (bodyOf Try.prog 16) 21).1::.inLoop (loopAt (bodyOf Try.prog 16) 21).1::(loopAt (bodyOf Try.prog 16) 21).2) (ESynodEnds_s21 v98 v99 o12_1 o12_2_1 o1000018 o1000097) =
  cond (decide (v99<v98)) (.need ((0:Int)≤v99∧v99<(↑(List.length o1000097):Int)) (.need (True) (cond (decide (Prod.fst (Prod.snd (stepR (o12_1,o12_2_1,()) (List.getD o1000097 (Int.toNat v99) ((0:Int),(0:Int),(0:Int),[],()))))≠(0:Int))) (.ret ((false,()))) (.need (inK IntKind.i64 (v99+(1:Int))) (.cut (loopAt (bodyOf Try.prog 16) 21).1 (loopAt (bodyOf Try.prog 16) 21).2 (St.mk [(12,AV.ptr 12 []),(18,AV.at_ 1000018 []),(97,AV.at_ 1000097 []),(98,AV.val (Ty.int IntKind.i64) v98),(99,AV.val (Ty.int IntKind.i64) (v99+(1:Int)))] [(12,Ent.var (Ty.pair (Ty.slc true (Ty.pair (Ty.int IntKind.i64) (Ty.pair (Ty.int IntKind.i64) (Ty.pair Ty.str Ty.unit)))) (Ty.pair (Ty.slc true (Ty.pair (Ty.int IntKind.i64) (Ty.pair (Ty.int IntKind.i64) (Ty.pair (Ty.int IntKind.u8) (Ty.pair (Ty.int IntKind.u8) (Ty.pair Ty.bool (Ty.pair Ty.str Ty.unit))))))) Ty.unit)) (Prod.fst (stepR (o12_1,o12_2_1,()) (List.getD o1000097 (Int.toNat v99) ((0:Int),(0:Int),(0:Int),[],()))))),(1000018,Ent.own (Ty.slc true Ty.str) o1000018),(1000097,Ent.own (Ty.slc true (Ty.pair (Ty.int IntKind.i64) (Ty.pair (Ty.int IntKind.i64) (Ty.pair (Ty.int IntKind.i64) (Ty.pair Ty.str Ty.unit))))) o1000097)])))))) (.need (scheck (o12_1,o12_2_1,())=(0:Int)→∀ (a:List UInt8),a∈chosenL (o12_1,o12_2_1,())→∀ (b:List UInt8),b∈chosenL (o12_1,o12_2_1,())→a=b) (cond (decide (Prod.fst (Prod.snd (chosenR (o12_1,o12_2_1,())))=(0:Int))) (cond (decide ((↑(List.length (Prod.fst (chosenR (o12_1,o12_2_1,())))):Int)=(1:Int))) (cond (decide ((↑(List.length o1000018):Int)=(0:Int))) (.ret ((true,()))) (.need ((0:Int)≤(0:Int)∧(0:Int)<(↑(List.length (Prod.fst (chosenR (o12_1,o12_2_1,())))):Int)) (.need ((0:Int)≤(0:Int)∧(0:Int)<(↑(List.length o1000018):Int)) (.ret ((decide (List.getD (Prod.fst (chosenR (o12_1,o12_2_1,()))) (Int.toNat (0:Int)) []=List.getD o1000018 (Int.toNat (0:Int)) []),())))))) (.ret ((false,())))) (.ret ((false,()))))):=by kernel_rfl
/-! ### a round above all others -/
theorem full_only {m k:Nat} (hm:m≤6) (h:bit ((2:Int)^m - 1) k=true):k<m:=by
  have hi:∀ m:Fin 7,inK .u8 ((2:Int)^m.val - 1):=by decide +kernel
  have key:∀ (m:Fin 7) (k:Fin 8),bit ((2:Int)^m.val - 1) k.val=true→k.val<m.val:=by decide +kernel
  exact key ⟨m,by omega⟩ ⟨k,bit_lt8 (hi ⟨m,by omega⟩) h⟩ h
theorem ones_ge {x:Int} {m:Nat} (hm:m≤6) (h:∀ k,k<m→bit x k=true):(m:Int)≤ones x:=by
  rw [← ones_full m hm]
  exact ones_mono (fun k hk=>h k (full_only hm hk))
theorem stepE_ok {V:List VoterD} {R:List RoundD} {kd b w:Int} {t:List UInt8} (h:scheck (V,R,())=0) (h1:1≤kd∧kd≤4) (h2:1≤b∧b≤16777215) (h3:0≤w∧w<V.length) (h4:t.length≤200)
    (h5:kd=1→findF R b<0∧R.length≠30) (h6:kd≠1→0≤findF R b):stepE (V,R,()) (kd,b,w,t,())=0:=by
  have hd:stepE (V,R,()) (kd,b,w,t,())=if scheck (V,R,())≠0 then scheck (V,R,()) else if inF kd 1 4=false∨inF b 1 16777215=false∨inF w 0 (V.length - 1)=false then 1
    else if (200:Int)<t.length then 2 else if kd=1∧0≤findF R b then 7 else if kd=1∧(R.length:Int)=30 then 8 else if kd≠1∧findF R b<0 then 6 else 0:=rfl
  rw [hd,if_neg (by rw [h]; simp),if_neg (by rw [inF_iff.2 h1,inF_iff.2 h2,inF_iff.2 ⟨h3.1,by omega⟩]; simp),if_neg (by omega),if_neg (fun k=>by have:=h5 k.1; omega),if_neg (fun k=>by have:=h5 k.1; omega),if_neg (fun k=>by have:=h6 k.1; omega)]
theorem find_last {R:List RoundD} {r:RoundD} {b:Int} (h:∀ x∈R,x.1≠b) (hr:r.1=b):findF (R++[r]) b=(R.length:Int):=by
  have:=idxGo_hit (p:=fun r:RoundD=>isBal r b) (d:=r00) (l:=R++[r]) (j:=0) (k:=R.length) (by simp) (by rw [getD_app_last]; exact decide_eq_true hr) (fun i hi=>by
    rw [getD_app_left hi]
    exact decide_eq_false (h _ (getD_mem hi)))
  rw [Nat.zero_add] at this
  exact this
theorem set_last {R:List RoundD} {r r':RoundD}:(R++[r]).set R.length r'=R++[r']:=by
  rw [List.set_append_right _ _ (Nat.le_refl _),Nat.sub_self]; rfl
def okRun:SynodD→List ActD→Prop
  | _,[]=>True
  | s,a::l=>stepE s a=0∧okRun (stepS s a) l
theorem okRun_app:∀ {l m:List ActD} {s:SynodD},okRun s l→okRun (l.foldl stepS s) m→okRun s (l++m)
  | [],_,_,_,h=>h
  | _::_,_,_,⟨h1,h2⟩,h=>⟨h1,okRun_app h2 h⟩
theorem okRun_at:∀ {l:List ActD} {s:SynodD} {i:Nat},okRun s l→i<l.length→stepE ((l.take i).foldl stepS s) (l.getD i (0,0,0,[],()))=0
  | [],_,_,_,h=>by cases h
  | _::_,_,0,h,_=>h.1
  | _::_,_,i+1,h,hi=>okRun_at (i:=i) h.2 (by simpa using hi)
structure Way (n:Nat) (R0:List RoundD) (b:Int) (ask:Bool) (k m:Nat) (s:SynodD) (said:List (List UInt8)):Prop where
  ok:VotOk n (s,said)
  rnd:∃ r:RoundD,s.2.1=R0++[r]∧r.1=b∧r.2.2.2.2.1=ask∧(∀ j,j<(if ask=true then m else k)→bit r.2.2.1 j=true)∧(ask=true→∀ j,j<k→bit r.2.2.2.1 j=true)
  vot:∀ j,j<n→(s.1.getD j v00).1≤b∧(ask=false→k≤j→(s.1.getD j v00).1<b)
section
variable {n:Nat} {R0:List RoundD} {b:Int} {m k:Nat} {s:SynodD} {said:List (List UInt8)}
theorem Way.promise (h:Way n R0 b false k m s said) (hb:1≤b∧b≤16777215) (h0:∀ x∈R0,x.1≠b) (hk:k<n):stepE s (2,b,(k:Int),[],())=0∧Way n R0 b false (k+1) m (stepS s (2,b,(k:Int),[],())) said:=by
  obtain ⟨V,R,⟨⟩⟩:=s
  obtain ⟨r,e1,e2,e3,e4,-⟩:=h.rnd
  have e1:R=R0++[r]:=e1
  have hV:V.length=n:=h.ok.len
  have hv:(V.getD k v00).1<b:=(h.vot k hk).2 rfl (Nat.le_refl _)
  have hf:findF R b=(R0.length:Int):=by rw [e1]; exact find_last h0 e2
  have he:stepE (V,R,()) (2,b,(k:Int),[],())=0:=stepE_ok h.ok.ok (by omega) hb (by omega) (by simp) (fun h=>absurd h (by decide)) (fun _=>by rw [hf]; omega)
  have hr:R.getD R0.length r00=r:=by rw [e1,getD_app_last]
  have hu:inK .u8 r.2.2.1:=(h.ok.pax.u8 r (by show r∈R; rw [e1]; simp)).1
  have hk8:k<8:=by have:=h.ok.pax.n1; have:V.length≤6:=this.2; omega
  have hS:stepS (V,R,()) (2,b,(k:Int),[],())=actG V R R0.length k (V.getD k v00) r 2 b (shl8 (k:Int)):=by
    show actF (V,R,()) (findF R b).toNat (2,b,(k:Int),[],())=_
    rw [hf,Int.toNat_natCast,actF]
    show actG V R R0.length k (V.getD k v00) (R.getD R0.length r00) 2 b (shl8 (k:Int))=_
    rw [hr]
  have hok:=h.ok.did he
  rw [if_neg (show ¬ (2:Int)=1 by decide)] at hok
  rw [actG,if_pos rfl,if_neg (by omega),if_neg (by rw [e3]; simp)] at hS
  have vt:∀ j,j<n→((V.set k (b,(V.getD k v00).2)).getD j v00).1≤b∧(false=false→k+1≤j→((V.set k (b,(V.getD k v00).2)).getD j v00).1<b):=by
    intro j hj
    rw [getD_set (by omega)]
    split
    · rename_i e; exact ⟨Int.le_refl _,fun _ h9=>by omega⟩
    · exact ⟨(h.vot j hj).1,fun _ h9=>(h.vot j hj).2 rfl (by omega)⟩
  have pb:∀ j,j<(if (false:Bool)=true then m else k+1)→bit (bOr .u8 r.2.2.1 (shl8 (k:Int))) j=true:=by
    intro j hj
    rw [if_neg (by decide)] at hj
    rw [one_bit hu hk8]
    by_cases e:j=k
    · exact .inr e
    · exact .inl (e4 j (by rw [if_neg (by decide)]; omega))
  refine ⟨he,hok,?_,?_⟩
  · rw [hS]
    split
    · exact ⟨(r.1,(V.getD k v00).2.1,bOr .u8 r.2.2.1 (shl8 (k:Int)),r.2.2.2.1,r.2.2.2.2.1,(V.getD k v00).2.2.1,()),by show R.set R0.length _=_; rw [e1,set_last],e2,e3,pb,fun h9=>by cases h9⟩
    · exact ⟨(r.1,r.2.1,bOr .u8 r.2.2.1 (shl8 (k:Int)),r.2.2.2),by show R.set R0.length _=_; rw [e1,set_last],e2,e3,pb,fun h9=>by cases h9⟩
  · rw [hS]
    split
    · exact vt
    · exact vt
theorem Way.ask (h:Way n R0 b false m m s said) (hb:1≤b∧b≤16777215) (h0:∀ x∈R0,x.1≠b) (hm:m≤6) (hn:n<2*m):stepE s (3,b,0,[],())=0∧Way n R0 b true 0 m (stepS s (3,b,0,[],())) said:=by
  obtain ⟨V,R,⟨⟩⟩:=s
  obtain ⟨r,e1,e2,e3,e4,-⟩:=h.rnd
  have e1:R=R0++[r]:=e1
  have hV:V.length=n:=h.ok.len
  have hn1:1≤V.length:=h.ok.pax.n1.1
  have hf:findF R b=(R0.length:Int):=by rw [e1]; exact find_last h0 e2
  have he:stepE (V,R,()) (3,b,0,[],())=0:=stepE_ok h.ok.ok (by omega) hb (by omega) (by simp) (fun h=>absurd h (by decide)) (fun _=>by rw [hf]; omega)
  have hr:R.getD R0.length r00=r:=by rw [e1,getD_app_last]
  have hS:stepS (V,R,()) (3,b,0,[],())=actG V R R0.length 0 (V.getD 0 v00) r 3 b (shl8 0):=by
    show actF (V,R,()) (findF R b).toNat (3,b,0,[],())=_
    rw [hf,Int.toNat_natCast,actF]
    show actG V R R0.length 0 (V.getD 0 v00) (R.getD R0.length r00) 3 b (shl8 0)=_
    rw [hr]
  have hok:=h.ok.did he
  rw [if_neg (show ¬ (3:Int)=1 by decide)] at hok
  rw [actG,if_neg (by decide),if_pos rfl] at hS
  have e4:∀ j,j<m→bit r.2.2.1 j=true:=fun j hj=>e4 j (by rw [if_neg (by decide)]; exact hj)
  have hmaj:maj r.2.2.1 V.length=true:=decide_eq_true (by have:=ones_ge hm e4; omega)
  refine ⟨he,hok,?_,?_⟩
  · rw [hS]
    exact ⟨(r.1,r.2.1,r.2.2.1,r.2.2.2.1,r.2.2.2.2.1 || maj r.2.2.1 V.length,r.2.2.2.2.2),by show R.set R0.length _=_; rw [e1,set_last],e2,by show (r.2.2.2.2.1 || maj r.2.2.1 V.length)=true; rw [hmaj,Bool.or_true],fun j hj=>e4 j (by simpa using hj),fun _ j hj=>by omega⟩
  · rw [hS]
    exact fun j hj=>⟨(h.vot j hj).1,fun h9=>by cases h9⟩
theorem Way.vote (h:Way n R0 b true k m s said) (hb:1≤b∧b≤16777215) (h0:∀ x∈R0,x.1≠b) (hk:k<n):stepE s (4,b,(k:Int),[],())=0∧Way n R0 b true (k+1) m (stepS s (4,b,(k:Int),[],())) said:=by
  obtain ⟨V,R,⟨⟩⟩:=s
  obtain ⟨r,e1,e2,e3,e4,e5⟩:=h.rnd
  have e1:R=R0++[r]:=e1
  have hV:V.length=n:=h.ok.len
  have hv:(V.getD k v00).1≤b:=(h.vot k hk).1
  have hf:findF R b=(R0.length:Int):=by rw [e1]; exact find_last h0 e2
  have he:stepE (V,R,()) (4,b,(k:Int),[],())=0:=stepE_ok h.ok.ok (by omega) hb (by omega) (by simp) (fun h=>absurd h (by decide)) (fun _=>by rw [hf]; omega)
  have hr:R.getD R0.length r00=r:=by rw [e1,getD_app_last]
  have hu:inK .u8 r.2.2.2.1:=(h.ok.pax.u8 r (by show r∈R; rw [e1]; simp)).2
  have hk8:k<8:=by have:=h.ok.pax.n1; have:V.length≤6:=this.2; omega
  have hS:stepS (V,R,()) (4,b,(k:Int),[],())=actG V R R0.length k (V.getD k v00) r 4 b (shl8 (k:Int)):=by
    show actF (V,R,()) (findF R b).toNat (4,b,(k:Int),[],())=_
    rw [hf,Int.toNat_natCast,actF]
    show actG V R R0.length k (V.getD k v00) (R.getD R0.length r00) 4 b (shl8 (k:Int))=_
    rw [hr]
  have hok:=h.ok.did he
  rw [if_neg (show ¬ (4:Int)=1 by decide)] at hok
  rw [actG,if_neg (by decide),if_neg (by decide),if_pos rfl,if_pos ⟨e3,hv⟩] at hS
  refine ⟨he,hok,?_,?_⟩
  · rw [hS]
    refine ⟨(r.1,r.2.1,r.2.2.1,bOr .u8 r.2.2.2.1 (shl8 (k:Int)),r.2.2.2.2),by show R.set R0.length _=_; rw [e1,set_last],e2,e3,e4,fun _ j hj=>?_⟩
    show bit (bOr .u8 r.2.2.2.1 (shl8 (k:Int))) j=true
    rw [one_bit hu hk8]
    by_cases e:j=k
    · exact .inr e
    · exact .inl (e5 rfl j (by omega))
  · rw [hS]
    intro j hj
    show ((V.set k (b,b,_)).getD j v00).1≤b∧_
    rw [getD_set (by omega)]
    split
    · exact ⟨Int.le_refl _,fun h9=>by cases h9⟩
    · exact ⟨(h.vot j hj).1,fun h9=>by cases h9⟩
theorem Way.promises (hb:1≤b∧b≤16777215) (h0:∀ x∈R0,x.1≠b) (h:Way n R0 b false 0 m s said):∀ k,k≤n→okRun s (oneTo 2 b k)∧Way n R0 b false k m ((oneTo 2 b k).foldl stepS s) said
  | 0,_=>⟨trivial,h⟩
  | k+1,hk=>by
    obtain ⟨h1,h2⟩:=Way.promises hb h0 h k (by omega)
    obtain ⟨h3,h4⟩:=h2.promise hb h0 (by omega)
    rw [oneTo_succ,List.foldl_append]
    exact ⟨okRun_app h1 ⟨h3,trivial⟩,h4⟩
theorem Way.votes (hb:1≤b∧b≤16777215) (h0:∀ x∈R0,x.1≠b) (h:Way n R0 b true 0 m s said):∀ k,k≤n→okRun s (oneTo 4 b k)∧Way n R0 b true k m ((oneTo 4 b k).foldl stepS s) said
  | 0,_=>⟨trivial,h⟩
  | k+1,hk=>by
    obtain ⟨h1,h2⟩:=Way.votes hb h0 h k (by omega)
    obtain ⟨h3,h4⟩:=h2.vote hb h0 (by omega)
    rw [oneTo_succ,List.foldl_append]
    exact ⟨okRun_app h1 ⟨h3,trivial⟩,h4⟩
end
theorem okRun_up {n:Nat}:∀ {l:List ActD} {s:SynodD} {said:List (List UInt8)},VotOk n (s,said)→okRun s l→Up s.2.1 (l.foldl stepS s).2.1
  | [],_,_,_,_=>.refl _
  | a::l,s,said,h,⟨h1,h2⟩=>by
    have hd:=h.did h1
    have hu:Up s.2.1 (stepS s a).2.1:=by
      obtain ⟨V,R,⟨⟩⟩:=s
      exact h.pax.toSOk.up (did_step h1 h.pax.toSOk)
    exact hu.trans (okRun_up hd h2)
theorem ends_run {n:Nat} {s:SynodD} {said:List (List UInt8)} (h:VotOk n (s,said)) {b:Int} {m:Nat} {t:List UInt8} (hb:1≤b∧b≤16777215) (hlt:∀ x∈s.2.1,x.1<b) (hm:m≤n) (hn:n<2*m) (hr:s.2.1.length≠30) (ht:t.length≤200) :
    okRun s (oneF b m t)∧∃ said',VotOk n ((oneF b m t).foldl stepS s,said')∧∃ r∈((oneF b m t).foldl stepS s).2.1,(n:Int)<2*ones r.2.2.2.1:=by
  obtain ⟨V,R,⟨⟩⟩:=s
  have hV:V.length=n:=h.len
  have hn1:=h.pax.n1
  have hn1:1≤V.length∧V.length≤6:=hn1
  have h0:∀ x∈R,x.1≠b:=fun x hx e=>by have:=hlt x hx; omega
  have he:stepE (V,R,()) (1,b,0,t,())=0:=stepE_ok h.ok (by omega) hb (by omega) ht (fun _=>⟨findF_neg.2 h0,hr⟩) (fun h=>absurd rfl h)
  have hS:stepS (V,R,()) (1,b,0,t,())=(V,R++[(b,0,0,0,false,t,())],()):=if_pos rfl
  have hok:=h.did he
  rw [hS,if_pos rfl] at hok
  have w0:Way n R b false 0 m (V,R++[(b,0,0,0,false,t,())],()) (said++[t]):=by
    refine ⟨hok,⟨_,rfl,rfl,rfl,fun j hj=>by rw [if_neg (by decide)] at hj; omega,fun h9=>by cases h9⟩,fun j hj=>?_⟩
    have hv:=h.pax.vot j (by show j<V.length; omega)
    have hlt2:(V.getD j v00).1<b:=by
      by_cases e:0<(V.getD j v00).1
      · obtain ⟨r,r1,r2⟩:=hv.prom e
        have:=hlt r r1
        have r2:r.1=(V.getD j v00).1:=r2
        omega
      · omega
    exact ⟨by show (V.getD j v00).1≤b; omega,fun _ _=>hlt2⟩
  obtain ⟨a1,a2⟩:=w0.promises hb h0 m hm
  obtain ⟨a3,a4⟩:=a2.ask hb h0 (by omega) hn
  obtain ⟨a5,a6⟩:=a4.votes hb h0 m hm
  have eF:oneF b (m:Int) t=[(1,b,0,t,())]++(oneTo 2 b m++([(3,b,0,[],())]++oneTo 4 b m)):=by
    rw [oneF,Int.toNat_natCast]; simp only [List.append_assoc]
  have f1:([(1,b,0,t,())]:List ActD).foldl stepS (V,R,())=(V,R++[(b,0,0,0,false,t,())],()):=hS
  rw [eF]
  refine ⟨okRun_app ⟨he,trivial⟩ ?_,said++[t],?_,?_⟩
  · rw [f1]
    exact okRun_app a1 (okRun_app ⟨a3,trivial⟩ a5)
  · rw [List.foldl_append,f1,List.foldl_append,List.foldl_append]
    exact a6.ok
  · rw [List.foldl_append,f1,List.foldl_append,List.foldl_append]
    obtain ⟨r,r1,r2,r3,r4,r5⟩:=a6.rnd
    have r1:(List.foldl stepS (List.foldl stepS (List.foldl stepS (V,R++[(b,0,0,0,false,t,())],()) (oneTo 2 b m)) [(3,b,0,[],())]) (oneTo 4 b m)).2.1=R++[r]:=r1
    refine ⟨r,by rw [r1]; simp,?_⟩
    have:=ones_ge (by omega) (r5 rfl)
    omega
end Go.Proofs.Ytegigiecamjobaa
