/- Who answers is heard behind what they answered: the mails of the law, their numbers, what hearing them does: the plain law. No condition but those named. -/
import Derived.Test.YtgmbfnlhmnpciaaCausalC
namespace Go.Proofs.Ytgmbfnlhmnpciaa
open Go.Ex
set_option maxRecDepth 100000
def frm (j:Nat):Int:=if j=0 then 0 else if j % 2=1 then 1 else 2
def sv (k:Nat):List Int:=[((min k 1:Nat):Int),((k / 2:Nat):Int),(((k - 1) / 2:Nat):Int),0,0,0]
def ml (t:Nat→List UInt8) (j:Nat):MailD:=(frm j,sv (j+1),t j,())
def hl (t:Nat→List UInt8) (a b:Nat):List MailD:=(List.range (b - a)).map (fun i=>ml t (a+i))
section
variable {t:Nat→List UInt8}
theorem hl_len {a b:Nat}:(hl t a b).length=b - a:=by simp [hl]
theorem hl_nil {a b:Nat} (h:b≤a):hl t a b=[]:=by rw [hl,show b - a=0 by omega]; rfl
theorem hl_get {a b i:Nat} (h:i<b - a) (d:MailD):(hl t a b).getD i d=ml t (a+i):=getD_map_range _ _ h
theorem hl_mem {a b:Nat} {x:MailD} (h:x∈hl t a b):∃ j,a≤j∧j<b∧x=ml t j:=by
  obtain ⟨i,hi,rfl⟩:=List.mem_map.1 h
  have:=List.mem_range.1 hi
  exact ⟨a+i,by omega,by omega,rfl⟩
theorem hl_succ {a b:Nat} (h:a≤b):hl t a (b+1)=hl t a b++[ml t b]:=by
  rw [hl,show b+1 - a=(b - a)+1 by omega,List.range_succ,List.map_append]
  show hl t a b++[ml t (a+(b - a))]=_
  rw [show a+(b - a)=b by omega]
theorem hl_cons {a b:Nat} (h:a<b):hl t a b=ml t a::hl t (a+1) b:=by
  refine List.ext_getElem (by rw [List.length_cons,hl_len,hl_len]; omega) (fun i h1 h2=>?_)
  rw [hl_len] at h1
  have e1:(hl t a b)[i]'(by rw [hl_len]; exact h1)=ml t (a+i):=by simp [hl]
  rw [e1]
  cases i with
  | zero=>rfl
  | succ i =>
    have:(hl t (a+1) b)[i]'(by rw [hl_len]; omega)=ml t (a+1+i):=by simp [hl]
    rw [List.getElem_cons_succ,this,show a+(i+1)=a+1+i by omega]
theorem hl_app {a b c:Nat} (h1:a≤b) (h2:b≤c):hl t a b++hl t b c=hl t a c:=by
  obtain ⟨d,rfl⟩:=Nat.exists_eq_add_of_le h2
  induction d with
  | zero=>rw [hl_nil (a:=b) (by omega),List.append_nil]; rfl
  | succ d ih=>rw [show b+(d+1)=(b+d)+1 by omega,hl_succ (by omega),hl_succ (by omega),← List.append_assoc,ih (by omega)]
/-! ### the numbers -/
theorem facts1:∀ (k j:Fin 24),delv (sv k.val) (frm j.val,sv (j.val+1),[],())=decide (j=k)∧decide ((sv (j.val+1)).getD (frm j.val).toNat 0≤(sv k.val).getD (frm j.val).toNat 0)=decide (j.val<k.val)∧sameM (frm k.val,sv (k.val+1),[],()) (frm j.val,sv (j.val+1),[],())=decide (k=j):=by decide +kernel
theorem facts2:∀ (k:Fin 24),formed (frm k.val,sv (k.val+1),[],())=true∧(sv k.val).any neg=false∧(sv k.val).set (frm k.val).toNat ((sv k.val).getD (frm k.val).toNat 0+1)=sv (k.val+1):=by decide +kernel
theorem delv_ml {k j:Nat} (hk:k<24) (hj:j<24):delv (sv k) (ml t j)=decide (j=k):=by
  have h:=(facts1 ⟨k,hk⟩ ⟨j,hj⟩).1
  have e:delv (sv k) (ml t j)=delv (sv k) (frm j,sv (j+1),[],()):=rfl
  rw [e]
  refine h.trans ?_
  exact decide_eq_decide.2 (by rw [Fin.mk.injEq])
theorem num_ml {k j:Nat} (hk:k<24) (hj:j<24):(ml t j).2.1.getD (ml t j).1.toNat 0≤(sv k).getD (ml t j).1.toNat 0↔j<k:=by
  have h:=(facts1 ⟨k,hk⟩ ⟨j,hj⟩).2.1
  exact decide_eq_decide.1 h
theorem same_ml {k j:Nat} (hk:k<24) (hj:j<24):sameM (ml t k) (ml t j)=decide (k=j):=by
  have h:=(facts1 ⟨k,hk⟩ ⟨j,hj⟩).2.2
  have e:sameM (ml t k) (ml t j)=sameM (frm k,sv (k+1),[],()) (frm j,sv (j+1),[],()):=rfl
  rw [e]
  refine h.trans ?_
  exact decide_eq_decide.2 (by rw [Fin.mk.injEq])
theorem formed_ml {k:Nat} (hk:k<24):formed (ml t k)=true:=(facts2 ⟨k,hk⟩).1
theorem bump_ml {k:Nat} (hk:k<24):bump (sv k) (ml t k)=sv (k+1):=(facts2 ⟨k,hk⟩).2.2
theorem frm_le (j:Nat):0≤frm j∧frm j≤2:=by unfold frm; split; omega; split<;>omega
abbrev lis (t:Nat→List UInt8) (me:Int) (p a b:Nat):CausalD:=(me,sv p,hl t a b,())
theorem lis_ok {me:Int} {p a b:Nat} (hme:0≤me∧me≤5) (hb:b<24) (hp:p<24) (h:a<b→p<a∧2<me):ccheck (lis t me p a b)=0:=by
  refine ccheck_iff.2 ⟨hme,(facts2 ⟨p,hp⟩).2.1,by show (hl t a b).length≤40; rw [hl_len]; omega,fun i hi=>hbad_iff.2 ?_⟩
  have hi:i<b - a:=by rw [← hl_len (t:=t)]; exact hi
  obtain ⟨h1,h2⟩:=h (by omega)
  show formed ((hl t a b).getD i mail0)=true∧((hl t a b).getD i mail0).1≠me∧(sv p).getD ((hl t a b).getD i mail0).1.toNat 0<((hl t a b).getD i mail0).2.1.getD ((hl t a b).getD i mail0).1.toNat 0∧delv (sv p) ((hl t a b).getD i mail0)=false∧∀ y∈(hl t a b).take i,sameM y ((hl t a b).getD i mail0)=false
  rw [hl_get hi]
  refine ⟨formed_ml (by omega),?_,?_,?_,?_⟩
  · have:=frm_le (a+i); show frm (a+i)≠me; omega
  · have:=num_ml (t:=t) (k:=p) (j:=a+i) hp (by omega)
    omega
  · rw [delv_ml hp (by omega)]; exact decide_eq_false (by omega)
  · intro y hy
    rw [List.mem_take_iff_getElem] at hy
    obtain ⟨k,hk,rfl⟩:=hy
    have hk2:k<b - a:=by have:=hl_len (t:=t) (a:=a) (b:=b); omega
    have e:(hl t a b)[k]'(by rw [hl_len]; exact hk2)=ml t (a+k):=by simp [hl]
    rw [e,same_ml (by omega) (by omega)]
    exact decide_eq_false (by omega)
theorem hear_old {me:Int} {p a b j:Nat} (hc:ccheck (lis t me p a b)=0) (hp:p<24) (h:j<p):chear (lis t me p a b) (ml t j)=(lis t me p a b,[],0,()):=by
  rw [chear,if_neg (by rw [hc]; simp),if_neg (by rw [formed_ml (by omega)]; simp)]
  split
  · rfl
  · rw [if_pos ((num_ml (t:=t) hp (by omega)).2 h)]
theorem hear_hold {me:Int} {p a b:Nat} (hc:ccheck (lis t me p a b)=0) (hb:b<24) (hab:a≤b) (h:p<b) (hf:frm b≠me):chear (lis t me p a b) (ml t b)=(lis t me p a (b+1),[],0,()):=by
  rw [chear,if_neg (by rw [hc]; simp),if_neg (by rw [formed_ml hb]; simp),if_neg (show ¬ (ml t b).1=me from hf),if_neg (by rw [num_ml (by omega) hb]; omega),if_neg,if_pos,if_neg]
  · show (((me,sv p,hl t a b++[ml t b],()),[],0,()):CausalD×List MailD×Int×Unit)=(((me,sv p,hl t a (b+1),()),[],0,()):CausalD×List MailD×Int×Unit)
    rw [hl_succ hab]
  · show ¬ ((hl t a b).length:Int)=40
    rw [hl_len]; omega
  · show delv (sv p) (ml t b)=false
    rw [delv_ml (by omega) hb]; exact decide_eq_false (by omega)
  · intro h9
    obtain ⟨y,h1,h2⟩:=List.any_eq_true.1 h9
    obtain ⟨k,k1,k2,rfl⟩:=hl_mem h1
    rw [same_ml (by omega) hb] at h2
    have:=of_decide_eq_true h2
    omega
theorem idx_none {p a b:Nat} (hb:b<24) (hp:p<24) (h:a<b→p<a):idxOf (delv (sv p)) (hl t a b)<0:=by
  refine Int.not_le.1 (fun h9=>?_)
  obtain ⟨y,h1,h2⟩:=idxGo_iff.1 h9
  obtain ⟨k,k1,k2,rfl⟩:=hl_mem h1
  rw [delv_ml hp (by omega)] at h2
  have:=of_decide_eq_true h2
  omega
theorem idx_first {a b:Nat} (hb:b<24) (h:a<b):idxOf (delv (sv a)) (hl t a b)=0:=by
  have:=idxGo_hit (p:=delv (sv a)) (d:=mail0) (l:=hl t a b) (j:=0) (k:=0) (by rw [hl_len]; omega) (by rw [hl_get (by omega),delv_ml (by omega) (by omega)]; exact decide_eq_true (by omega)) (fun i hi=>by omega)
  exact this
theorem hgo_none {f p a b:Nat} {l:List MailD} (hb:b<24) (hp:p+1<24) (h:a<b→p+1<a):hgo (f+1) (sv p) (hl t a b) (ml t p) l=(sv (p+1),hl t a b,l++[ml t p]):=by
  rw [hgo_step,bump_ml (by omega),if_pos (idx_none hb hp h)]
theorem hgo_chain:∀ (d:Nat) {f p b:Nat} {l:List MailD},b<24→p+1+d=b→d<f→hgo f (sv p) (hl t (p+1) b) (ml t p) l=(sv b,[],l++hl t p b)
  | 0,f+1,p,b,l,hb,he,_=>by
    obtain rfl:b=p+1:=by omega
    rw [hgo_none hb hb (fun h=>by omega),hl_nil (a:=p+1) (by omega),hl_cons (show p<p+1 by omega),hl_nil (a:=p+1) (by omega)]
  | d+1,f+1,p,b,l,hb,he,hf=>by
    rw [hgo_step,bump_ml (by omega),idx_first hb (by omega),if_neg (by omega)]
    have e1:(hl t (p+1) b).take (0:Int).toNat++(hl t (p+1) b).drop ((0:Int)+1).toNat=hl t (p+1+1) b:=by
      show []++(hl t (p+1) b).drop 1=_
      rw [List.nil_append,hl_cons (show p+1<b by omega)]; rfl
    have e2:(hl t (p+1) b).getD (0:Int).toNat mail0=ml t (p+1):=by
      show (hl t (p+1) b).getD 0 mail0=_
      rw [hl_get (by omega)]
    rw [e1,e2,hgo_chain d (f:=f) (p:=p+1) hb (by omega) (by omega),List.append_assoc]
    have e3:[ml t p]++hl t (p+1) b=hl t p b:=by rw [hl_cons (show p<b by omega)]; rfl
    rw [e3]
theorem hear_next {me:Int} {p a b:Nat} (hc:ccheck (lis t me p a b)=0) (hb:b<24) (hp:p+1<24) (h:a<b→p+1<a) (hf:frm p≠me):chear (lis t me p a b) (ml t p)=(lis t me (p+1) a b,[ml t p],0,()):=by
  rw [chear,if_neg (by rw [hc]; simp),if_neg (by rw [formed_ml (by omega)]; simp),if_neg (show ¬ (ml t p).1=me from hf),if_neg (by rw [num_ml (by omega) (by omega)]; omega),if_neg,if_neg]
  · show (((me,(hgo ((hl t a b).length+1) (sv p) (hl t a b) (ml t p) []).1,(hgo ((hl t a b).length+1) (sv p) (hl t a b) (ml t p) []).2.1.filter _,()),_,0,()):CausalD×List MailD×Int×Unit)=_
    rw [hgo_none hb hp h]
    have hfl:(hl t a b).filter (fun x=>!stale (sv (p+1)) x)=hl t a b:=List.filter_eq_self.2 (fun x hx=>by
      obtain ⟨k,k1,k2,rfl⟩:=hl_mem hx
      rw [stale,decide_eq_false (by rw [num_ml hp (by omega)]; have:=h (by omega); omega)]; rfl)
    show (((me,sv (p+1),(hl t a b).filter (fun x=>!stale (sv (p+1)) x),()),[]++[ml t p],0,()):CausalD×List MailD×Int×Unit)=_
    rw [hfl]; rfl
  · show ¬ delv (sv p) (ml t p)=false
    rw [delv_ml (by omega) (by omega),decide_eq_true rfl]; simp
  · intro h9
    obtain ⟨y,h1,h2⟩:=List.any_eq_true.1 h9
    obtain ⟨k,k1,k2,rfl⟩:=hl_mem h1
    rw [same_ml (by omega) (by omega)] at h2
    have:=of_decide_eq_true h2
    have:=h (by omega)
    omega
theorem hear_all {me:Int} {p b:Nat} (hc:ccheck (lis t me p (p+1) b)=0) (hb:b<24) (h:p+1≤b) (hf:frm p≠me):chear (lis t me p (p+1) b) (ml t p)=((me,sv b,[],()),hl t p b,0,()):=by
  rw [chear,if_neg (by rw [hc]; simp),if_neg (by rw [formed_ml (by omega)]; simp),if_neg (show ¬ (ml t p).1=me from hf),if_neg (by rw [num_ml (by omega) (by omega)]; omega),if_neg,if_neg]
  · show (((me,(hgo ((hl t (p+1) b).length+1) (sv p) (hl t (p+1) b) (ml t p) []).1,(hgo ((hl t (p+1) b).length+1) (sv p) (hl t (p+1) b) (ml t p) []).2.1.filter _,()),_,0,()):CausalD×List MailD×Int×Unit)=_
    rw [hgo_chain (b - (p+1)) hb (by omega) (by rw [hl_len]; omega)]
    rfl
  · show ¬ delv (sv p) (ml t p)=false
    rw [delv_ml (by omega) (by omega),decide_eq_true rfl]; simp
  · intro h9
    obtain ⟨y,h1,h2⟩:=List.any_eq_true.1 h9
    obtain ⟨k,k1,k2,rfl⟩:=hl_mem h1
    rw [same_ml (by omega) (by omega)] at h2
    have:=of_decide_eq_true h2
    omega
end
def qf (p i:Nat):Nat:=if i≤p then 0 else i - (i - 1 - p) % 2+1
def lst (t:Nat→List UInt8) (k n r:Nat):CausalD×List MailD :=
  if k=0 then (lis t 5 r 0 0,hl t 0 r) else if r≤n - k then (lis t 5 0 k (k+r),[]) else if r<n then (lis t 5 (r - (n - k)) k n,hl t 0 (r - (n - k))) else ((5,sv n,[],()),hl t 0 n)
section
variable {t:Nat→List UInt8}
theorem lst_step {k n r:Nat} (hn:n<22) (hk:k<n) (hr:r<n):∃ l,chear (lst t k n r).1 (if r<n - k then ml t (k+r) else ml t (r - (n - k)))=((lst t k n (r+1)).1,l,0,())∧(lst t k n (r+1)).2=(lst t k n r).2++l:=by
  have hf:∀ j,frm j≠5:=fun j=>by have:=frm_le j; omega
  by_cases h0:k=0
  · subst h0
    rw [lst,if_pos rfl,lst,if_pos rfl,if_pos (by omega),Nat.zero_add]
    refine ⟨[ml t r],?_,hl_succ (Nat.zero_le _)⟩
    exact hear_next (lis_ok (by omega) (by omega) (by omega) (fun h=>by omega)) (by omega) (by omega) (fun h=>by omega) (hf _)
  by_cases h1:r<n - k
  · have e1:lst t k n r=(lis t 5 0 k (k+r),[]):=by rw [lst,if_neg h0,if_pos (by omega)]
    have e2:lst t k n (r+1)=(lis t 5 0 k (k+(r+1)),[]):=by rw [lst,if_neg h0,if_pos (by omega)]
    rw [e1,e2,if_pos h1]
    refine ⟨[],?_,rfl⟩
    exact hear_hold (lis_ok (by omega) (by omega) (by omega) (fun h=>by omega)) (by omega) (by omega) (by omega) (hf _)
  rw [if_neg h1]
  have e0:lst t k n r=(lis t 5 (r - (n - k)) k n,hl t 0 (r - (n - k))):=by
    rw [lst,if_neg h0,if_pos hr]
    split
    · rw [show r - (n - k)=0 by omega,show k+r=n by omega,hl_nil (Nat.le_refl 0)]
    · rfl
  rw [e0]
  obtain ⟨j,hj⟩:∃ j,j=r - (n - k):=⟨_,rfl⟩
  rw [← hj]
  have hok:ccheck (lis t 5 j k n)=0:=lis_ok (by omega) (by omega) (by omega) (fun h=>by omega)
  by_cases h2:r+1<n
  · rw [lst,if_neg h0,if_neg (by omega),if_pos h2,show r+1 - (n - k)=j+1 by omega]
    refine ⟨[ml t j],?_,hl_succ (Nat.zero_le _)⟩
    exact hear_next hok (by omega) (by omega) (fun h=>by omega) (hf _)
  · rw [lst,if_neg h0,if_neg (by omega),if_neg h2]
    obtain rfl:k=j+1:=by omega
    refine ⟨hl t j n,hear_all hok (by omega) (by omega) (hf _),?_⟩
    show hl t 0 n=hl t 0 j++hl t j n
    rw [hl_app (by omega) (by omega)]
theorem lst_len {k n r:Nat} (hr:r≤n):(lst t k n r).2.length≤n:=by
  rw [lst]
  split
  · rw [hl_len]; omega
  split
  · show 0≤n; omega
  split
  · rw [hl_len]; omega
  · rw [hl_len]; omega
theorem lst_end {k n:Nat} (hk:k<n):(lst t k n n).2=hl t 0 n:=by
  rw [lst]
  split
  · rfl
  split
  · omega
  rw [if_neg (by omega)]
end
theorem who_step {t:Nat→List UInt8} {me:Int} {q j:Nat} (hme:0≤me∧me≤5) (hj:j<22) (hq:q<23) (hf:q≤j→frm j≠me):∃ l,chear (lis t me (max q j) 0 0) (ml t j)=(lis t me (max q (j+1)) 0 0,l,0,()):=by
  have hok:ccheck (lis t me (max q j) 0 0)=0:=lis_ok hme (by omega) (by omega) (fun h=>by omega)
  by_cases h:j<q
  · refine ⟨[],?_⟩
    rw [show max q (j+1)=max q j by omega]
    exact hear_old hok (by omega) (by omega)
  · refine ⟨[ml t j],?_⟩
    rw [show max q j=j by omega] at hok ⊢
    rw [show max q (j+1)=j+1 by omega]
    exact hear_next hok (by omega) (by omega) (fun h=>by omega) (hf (by omega))
theorem qf_now {i:Nat}:qf (i % 2) i=if i<2 then 0 else i:=by
  unfold qf
  split
  · rw [if_pos (by omega)]
  · rw [if_neg (by omega)]; omega
theorem qf_same {i p:Nat} (hp:p<2) (h:p≠i % 2):qf p (i+1)=qf p i:=by
  unfold qf
  by_cases h1:i+1≤p
  · rw [if_pos h1,if_pos (by omega)]
  · rw [if_neg h1]
    by_cases h2:i≤p
    · omega
    · rw [if_neg h2]; omega
theorem qf_next {i:Nat}:qf (i % 2) (i+1)=i+2:=by
  unfold qf
  rw [if_neg (by omega)]; omega
theorem frm_now {i j:Nat} (h1:(if i<2 then 0 else i)≤j) (h2:j≤i):frm j≠1+((i % 2:Nat):Int):=by
  unfold frm
  by_cases h:i<2
  · have:i=0∨i=1:=by omega
    have:j=0∨j=1:=by omega
    rcases ‹i=0∨i=1› with rfl|rfl<;>rcases ‹j=0∨j=1› with rfl|rfl<;>simp at*
  · rw [if_neg h] at h1
    obtain rfl:j=i:=by omega
    rw [if_neg (by omega)]
    split<;>omega
theorem frm_next (i:Nat):frm (i+1)=1+((i % 2:Nat):Int):=by
  unfold frm
  rw [if_neg (by omega)]
  split<;>omega
def castF (c:CausalD) (t:List UInt8):CausalD×MailD×Int×Unit :=
  if ccheck c≠0 then (c0,mail0,ccheck c,()) else if 16777215≤c.2.1.getD c.1.toNat 0 then (c0,mail0,8,())
  else ((c.1,c.2.1.set c.1.toNat (c.2.1.getD c.1.toNat 0+1),c.2.2.1,()),(c.1,c.2.1.set c.1.toNat (c.2.1.getD c.1.toNat 0+1),t,()),0,())
def cccloneS:Ctr:={ ps:=[.v Causal],rs:=[Causal],pre:=fun x=>List.length (α:=MailD) x.1.2.2.1≤1048576,fn:=fun x=>x,out:=fun _=>(),new:=true }
theorem cccloneS_valid:cccloneS.Valid Try.prog 23:=ccclone_valid.share (rs':=[Causal]) rfl rfl rfl
def ccastS:Ctr:={ ps:=[.v Causal,.v .str],rs:=[Causal,Mail,I64],pre:=fun _=>True,fn:=fun x=>castF x.1 x.2.1,out:=fun _=>() }
noncomputable def Ecast:Env:={ P:=Try.prog,tt:=tt,ctr:=[(22,cccheck),(23,cccloneS)],res:=[Go.ResultVar.cell 4 40,Go.ResultVar.cell 5 42,Go.ResultVar.tmp 6],rs:=[Ty.pair (Ty.int IntKind.i64) (Ty.pair Vec (Ty.pair (Ty.slc false (Ty.pair (Ty.int IntKind.i64) (Ty.pair Vec (Ty.pair Ty.str Ty.unit)))) Ty.unit)),Ty.pair (Ty.int IntKind.i64) (Ty.pair Vec (Ty.pair Ty.str Ty.unit)),Ty.int IntKind.i64],ps:=[PK.v (Ty.pair (Ty.int IntKind.i64) (Ty.pair Vec (Ty.pair (Ty.slc false (Ty.pair (Ty.int IntKind.i64) (Ty.pair Vec (Ty.pair Ty.str Ty.unit)))) Ty.unit))),PK.v Ty.str],cuts:=[],nt:=41 }
theorem Ecast_ok:EnvOk Ecast:=envOk tt_ok ⟨cccheck_valid,cccloneS_valid,trivial⟩
theorem Fcast_ok:FnOk Ecast Try.f9:=⟨rfl,rfl⟩
theorem Ecast_t (x0_1:Int) (x0_2_1:List Int) (x0_2_2_1:List (Int×List Int×List UInt8×Unit)) (x1:List UInt8):exec Ecast 1000 [.code (bodyOf Try.prog 9)] (initSt ccastS.ps (((x0_1,x0_2_1,x0_2_2_1,()),x1,()))) =
  .need (True) (cond (decide (ccheck (x0_1,x0_2_1,x0_2_2_1,())≠(0:Int))) (.ret ((((0:Int),[(0:Int),(0:Int),(0:Int),(0:Int),(0:Int),(0:Int)],[],()),((0:Int),[(0:Int),(0:Int),(0:Int),(0:Int),(0:Int),(0:Int)],[],()),ccheck (x0_1,x0_2_1,x0_2_2_1,()),()))) (.need ((0:Int)≤x0_1∧x0_1<(↑6:Int)) (cond (decide ((16777215:Int)≤List.getD x0_2_1 (Int.toNat x0_1) (0:Int))) (.ret ((((0:Int),[(0:Int),(0:Int),(0:Int),(0:Int),(0:Int),(0:Int)],[],()),((0:Int),[(0:Int),(0:Int),(0:Int),(0:Int),(0:Int),(0:Int)],[],()),(8:Int),()))) (.need (List.length x0_2_2_1≤1048576) (.need ((0:Int)≤x0_1∧x0_1<(↑6:Int)) (.need (inK IntKind.i64 (List.getD x0_2_1 (Int.toNat x0_1) (0:Int)+(1:Int))) (.need ((0:Int)≤x0_1∧x0_1<(↑6:Int)) (.ret (((x0_1,List.set x0_2_1 (Int.toNat x0_1) (List.getD x0_2_1 (Int.toNat x0_1) (0:Int)+(1:Int)),x0_2_2_1,()),(x0_1,List.set x0_2_1 (Int.toNat x0_1) (List.getD x0_2_1 (Int.toNat x0_1) (0:Int)+(1:Int)),x1,()),(0:Int),())))))))))):=by kernel_rfl
theorem cast_ml {t:Nat→List UInt8} {k:Nat} (hk:k<23):castF (frm k,sv k,[],()) (t k)=((frm k,sv (k+1),[],()),ml t k,0,()):=by
  have hok:ccheck (lis t (frm k) k 0 0)=0:=lis_ok (by have:=frm_le k; omega) (by omega) (by omega) (fun h=>by omega)
  have hb:(sv k).set (frm k).toNat ((sv k).getD (frm k).toNat 0+1)=sv (k+1):=(facts2 ⟨k,by omega⟩).2.2
  have hs:∀ k:Fin 24,(sv k.val).getD (frm k.val).toNat 0<100:=by decide +kernel
  have hs:=hs ⟨k,by omega⟩
  rw [castF,if_neg (by intro h; exact h hok),if_neg (by show ¬ 16777215≤(sv k).getD (frm k).toNat 0; have hs:(sv k).getD (frm k).toNat 0<100:=hs; omega)]
  show (((frm k,(sv k).set (frm k).toNat ((sv k).getD (frm k).toNat 0+1),[],()),(frm k,(sv k).set (frm k).toNat ((sv k).getD (frm k).toNat 0+1),t k,()),0,()):CausalD×MailD×Int×Unit)=_
  rw [hb]; rfl
end Go.Proofs.Ytgmbfnlhmnpciaa
