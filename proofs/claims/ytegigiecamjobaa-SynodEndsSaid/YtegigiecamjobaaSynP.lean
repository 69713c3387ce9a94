/- A synod's states: what its check says, and that steps keep it: the plain law. No condition but those named. -/
import Derived.Test.YtegigiecamjobaaSynC
namespace Go.Proofs.Ytegigiecamjobaa
open Go.Ex
set_option maxRecDepth 100000
/-! ### bits of a byte -/
theorem u8_fin {x:Int} (h:inK .u8 x):∃ n:Fin 256,x=((n.val:Nat):Int):=by
  have h:=u8_in.1 h
  exact ⟨⟨x.toNat,by omega⟩,by simp; omega⟩
theorem at1_bit {x:Int} {k:Nat} (hx:inK .u8 x) (hk:k<8):at1 x (k:Int)=1↔bit x k=true:=by
  obtain ⟨n,rfl⟩:=u8_fin hx
  have key:∀ (n:Fin 256) (k:Fin 8),at1 ((n.val:Nat):Int) ((k.val:Nat):Int)=1↔bit ((n.val:Nat):Int) k.val=true:=by decide +kernel
  exact key n ⟨k,hk⟩
theorem bit_lt8 {x:Int} {k:Nat} (hx:inK .u8 x) (h:bit x k=true):k<8:=by
  refine Classical.byContradiction (fun hk=>?_)
  rw [bit_out u8s hx (show IntKind.bits .u8≤k by show 8≤k; omega)] at h
  cases h
theorem shl8_in (k:Int):inK .u8 (shl8 k):=wrap_in _ _
theorem shl8_bit {k j:Nat} (hk:k<8):bit (shl8 (k:Int)) j=decide (j=k):=by
  by_cases hj:j<8
  · have key:∀ (k j:Fin 8),bit (shl8 ((k.val:Nat):Int)) j.val=decide (j.val=k.val):=by decide +kernel
    exact key ⟨k,hk⟩ ⟨j,hj⟩
  · rw [bit_out u8s (shl8_in _) (show IntKind.bits .u8≤j by show 8≤j; omega),decide_eq_false (by omega)]
theorem high0 {x:Int} {n:Nat} (hx:inK .u8 x) (hn:n≤8):x / 2^min (Int.toNat (n:Int)) (IntKind.bits .u8)=0↔∀ k,bit x k=true→k<n:=by
  have h0:=u8_in.1 hx
  obtain ⟨m,rfl⟩:=Int.eq_ofNat_of_zero_le h0.1
  rw [show min (Int.toNat (n:Int)) (IntKind.bits .u8)=n from by rw [Int.toNat_natCast]; exact Nat.min_eq_left hn]
  have e:((m:Int) / 2^n=0)↔m<2^n:=by
    rw [show ((m:Int) / 2^n)=((m / 2^n:Nat):Int) by rw [Int.natCast_ediv]; simp]
    rw [Int.natCast_eq_zero,Nat.div_eq_zero_iff]
    have:=Nat.two_pow_pos n
    omega
  rw [e]
  simp only [bit,Int.toNat_natCast]
  constructor
  · intro h k hk
    refine Classical.byContradiction (fun hc=>?_)
    rw [Nat.testBit_lt_two_pow (Nat.lt_of_lt_of_le h (Nat.pow_le_pow_right (by omega) (by omega)))] at hk
    cases hk
  · intro h
    refine Nat.lt_pow_two_of_testBit _ (fun i hi=>?_)
    cases e2:m.testBit i with
    | false=>rfl
    | true=>have:=h i e2; omega
theorem ones_full:∀ n:Nat,n≤6→ones ((2:Int)^n - 1)=n:=by
  intro n hn
  have key:∀ n:Fin 7,ones ((2:Int)^n.val - 1)=(n.val:Int):=by decide +kernel
  exact key ⟨n,by omega⟩
theorem full_bit {n k:Nat} (hn:n≤6) (hk:k<n):bit ((2:Int)^n - 1) k=true:=by
  have key:∀ (n:Fin 7) (k:Fin 6),k.val<n.val→bit ((2:Int)^n.val - 1) k.val=true:=by decide +kernel
  exact key ⟨n,by omega⟩ ⟨k,by omega⟩ hk
theorem maj_meet {a b:Int} {n:Nat} (hn:n≤6) (ha:∀ k,bit a k=true→k<n) (hb:∀ k,bit b k=true→k<n) (h1:(n:Int)<2*ones a) (h2:(n:Int)<2*ones b):∃ k,bit a k=true∧bit b k=true:=by
  refine Classical.byContradiction (fun hno=>?_)
  have:=ones_add (a:=a) (b:=b) (c:=(2:Int)^n - 1) (fun i=>⟨fun h=>full_bit hn (ha i h),fun h=>full_bit hn (hb i h),fun h=>by
    cases e:bit b i with
    | false=>rfl
    | true=>exact absurd ⟨i,h,e⟩ hno⟩)
  rw [ones_full n hn] at this
  omega
theorem ones_zero:ones 0=0:=by decide
theorem maj_nz {v:Int} {n:Int} (h0:0≤n) (h:n<2*ones v):v≠0:=by
  rintro rfl; rw [ones_zero] at h; omega
theorem bit_nz {v:Int} {k:Nat} (h:bit v k=true):v≠0:=by
  rintro rfl; simp [bit] at h
/-! ### what the check says -/
structure VOk (R:List RoundD) (v:VoterD) (k:Nat):Prop where
  pos:0≤v.2.1∧v.2.1≤v.1
  prom:0<v.1→∃ r∈R,r.1=v.1
  le:∀ r∈R,bit r.2.2.1 k=true∨bit r.2.2.2.1 k=true→r.1≤v.1
  vle:∀ r∈R,bit r.2.2.2.1 k=true→r.1≤v.2.1
  last:0<v.2.1→∃ r∈R,r.1=v.2.1∧bit r.2.2.2.1 k=true∧r.2.2.2.2.2.1=v.2.2.1
  none:v.2.1=0→v.2.2.1=[]
structure SOk (V:List VoterD) (R:List RoundD):Prop where
  n1:1≤V.length∧V.length≤6
  r30:R.length≤30
  u8:∀ r∈R,inK .u8 r.2.2.1∧inK .u8 r.2.2.2.1
  rng:∀ r∈R,(1≤r.1∧r.1≤16777215)∧0≤r.2.1∧r.2.1<r.1
  one:R.Pairwise (fun a b=>a.1≠b.1)
  bits:∀ r∈R,∀ k,bit r.2.2.1 k=true∨bit r.2.2.2.1 k=true→k<V.length
  vask:∀ r∈R,r.2.2.2.1≠0→r.2.2.2.2.1=true
  amaj:∀ r∈R,r.2.2.2.2.1=true→(V.length:Int)<2*ones r.2.2.1
  vot:∀ k,k<V.length→VOk R (V.getD k v00) k
theorem last_spec {k:Int}:∀ (R:List RoundD) (a:RoundD),(∀ r∈R,1≤r.1)→0≤a.1 →
    (R.foldl (lastR k) a=a∧∀ r∈R,at1 r.2.2.2.1 k=1→r.1≤a.1)∨(R.foldl (lastR k) a∈R∧at1 (R.foldl (lastR k) a).2.2.2.1 k=1∧a.1<(R.foldl (lastR k) a).1∧∀ r∈R,at1 r.2.2.2.1 k=1→r.1≤(R.foldl (lastR k) a).1)
  | [],a,_,_=>.inl ⟨rfl,by simp⟩
  | r::R,a,h,ha=>by
    rw [List.foldl_cons]
    have hr:=h r (by simp)
    have hR:∀ x∈R,1≤x.1:=fun x hx=>h x (by simp [hx])
    by_cases c:at1 r.2.2.2.1 k=1∧a.1<r.1
    · have e:lastR k a r=r:=if_pos c
      rw [e]
      right
      rcases last_spec R r hR (by omega) with ⟨h1,h2⟩|⟨h1,h2,h3,h4⟩
      · rw [h1]
        refine ⟨by simp,c.1,c.2,fun x hx hb=>?_⟩
        rcases List.mem_cons.1 hx with rfl|hx
        · exact Int.le_refl _
        · exact h2 x hx hb
      · refine ⟨List.mem_cons_of_mem _ h1,h2,by omega,fun x hx hb=>?_⟩
        rcases List.mem_cons.1 hx with rfl|hx
        · omega
        · exact h4 x hx hb
    · have e:lastR k a r=a:=if_neg c
      rw [e]
      rcases last_spec R a hR ha with ⟨h1,h2⟩|⟨h1,h2,h3,h4⟩
      · refine .inl ⟨h1,fun x hx hb=>?_⟩
        rcases List.mem_cons.1 hx with rfl|hx
        · exact Int.not_lt.1 (fun hlt=>c ⟨hb,hlt⟩)
        · exact h2 x hx hb
      · refine .inr ⟨List.mem_cons_of_mem _ h1,h2,h3,fun x hx hb=>?_⟩
        rcases List.mem_cons.1 hx with rfl|hx
        · have:=Int.not_lt.1 (fun hlt=>c ⟨hb,hlt⟩)
          omega
        · exact h4 x hx hb
theorem one_eq {R:List RoundD} (h:R.Pairwise (fun a b=>a.1≠b.1)) {a b:RoundD} (ha:a∈R) (hb:b∈R) (e:a.1=b.1):a=b:=by
  obtain ⟨i,hi,e1⟩:=List.getElem_of_mem ha
  obtain ⟨j,hj,e2⟩:=List.getElem_of_mem hb
  have key:i=j:=by
    refine Classical.byContradiction (fun hne=>?_)
    rcases Nat.lt_or_ge i j with hlt|hge
    · have:=List.pairwise_iff_getElem.1 h i j hi hj hlt
      rw [e1,e2] at this; exact this e
    · have:=List.pairwise_iff_getElem.1 h j i hj hi (by omega)
      rw [e1,e2] at this; exact this e.symm
  subst key
  rw [← e1,← e2]
theorem or_bit {x y:Int} (hx:inK .u8 x) (hy:inK .u8 y) (k:Nat):bit (bOr .u8 x y) k=true↔bit x k=true∨bit y k=true:=by
  rw [bit_or u8s hx hy,Bool.or_eq_true]
theorem vtr_iff {R:List RoundD} {v:VoterD} {k:Nat} (hk:k<8) (hu:∀ r∈R,inK .u8 r.2.2.1∧inK .u8 r.2.2.2.1) (hr:∀ r∈R,1≤r.1) (ho:R.Pairwise (fun a b=>a.1≠b.1)):vtrE R v (k:Int)=0↔VOk R v k:=by
  have hlate:R.any (lateR k v)=true↔∃ r∈R,(bit r.2.2.1 k=true∨bit r.2.2.2.1 k=true)∧v.1<r.1:=by
    rw [List.any_eq_true]
    constructor
    · rintro ⟨r,h1,h2⟩
      rw [lateR,Bool.and_eq_true,decide_eq_true_eq,decide_eq_true_eq,at1_bit or_in hk,or_bit (hu r h1).1 (hu r h1).2] at h2
      exact ⟨r,h1,h2⟩
    · rintro ⟨r,h1,h2⟩
      refine ⟨r,h1,?_⟩
      rw [lateR,Bool.and_eq_true,decide_eq_true_eq,decide_eq_true_eq,at1_bit or_in hk,or_bit (hu r h1).1 (hu r h1).2]
      exact h2
  have hl:=last_spec (k:=(k:Int)) R r00 hr (by show (0:Int)≤0; omega)
  have hb:∀ r∈R,(at1 r.2.2.2.1 (k:Int)=1↔bit r.2.2.2.1 k=true):=fun r h=>at1_bit (hu r h).2 hk
  generalize hL:R.foldl (lastR (k:Int)) r00=L at hl
  have hd:vtrE R v (k:Int)=if v.1<0∨v.2.1<0∨v.1<v.2.1 then 1
    else if (v.2.1=0∧v.2.2.1≠[])∨(0<v.1∧findF R v.1<0) then 4
    else if R.any (lateR k v)=true then 4
    else if v.2.1≠L.1∨(0<L.1∧v.2.2.1≠L.2.2.2.2.2.1) then 4 else 0:=by rw [← hL]; rfl
  rw [hd]
  constructor
  · intro h
    split at h
    · cases h
    rename_i c1
    split at h
    · cases h
    rename_i c2
    split at h
    · cases h
    rename_i c3
    split at h
    · cases h
    rename_i c4
    have c4a:v.2.1=L.1:=Decidable.not_not.1 (fun e=>c4 (.inl e))
    refine ⟨by omega,fun h0=>?_,fun r h1 h2=>?_,fun r h1 h2=>?_,fun h0=>?_,fun h0=>Decidable.not_not.1 (fun e=>c2 (.inl ⟨h0,e⟩))⟩
    · refine Classical.byContradiction (fun hno=>c2 (.inr ⟨h0,findF_neg.2 (fun r hr e=>hno ⟨r,hr,e⟩)⟩))
    · exact Int.not_lt.1 (fun hlt=>c3 (hlate.2 ⟨r,h1,h2,hlt⟩))
    · rcases hl with ⟨k1,k2⟩|⟨k1,k2,k3,k4⟩
      · have:=k2 r h1 ((hb r h1).2 h2)
        rw [c4a,k1]; exact this
      · rw [c4a]; exact k4 r h1 ((hb r h1).2 h2)
    · rcases hl with ⟨k1,k2⟩|⟨k1,k2,k3,k4⟩
      · rw [c4a,k1] at h0
        exact absurd h0 (by show ¬ (0:Int)<0; omega)
      · exact ⟨L,k1,c4a.symm,(hb L k1).1 k2,(Decidable.not_not.1 (fun e=>c4 (.inr ⟨by omega,e⟩))).symm⟩
  · intro h
    have hp:=h.pos
    rw [if_neg (by omega),if_neg,if_neg,if_neg]
    · rcases hl with ⟨k1,k2⟩|⟨k1,k2,k3,k4⟩
      · have e0:v.2.1=0:=by
          refine Classical.byContradiction (fun hne=>?_)
          obtain ⟨r,h1,h2,h3,_⟩:=h.last (by omega)
          have:=k2 r h1 ((hb r h1).2 h3)
          have:=hr r h1
          have:r.1≤0:=by assumption
          omega
        rw [k1]
        rintro (h1|h1)
        · exact h1 e0
        · exact absurd h1.1 (by show ¬ (0:Int)<0; omega)
      · have h1:=h.vle L k1 ((hb L k1).1 k2)
        have h0:=hr L k1
        obtain ⟨r,r1,r2,r3,r4⟩:=h.last (by omega)
        have h3:=k4 r r1 ((hb r r1).2 r3)
        have e:r=L:=one_eq ho r1 k1 (by omega)
        subst e
        rintro (h4|h4)
        · exact h4 (by omega)
        · exact h4.2 r4.symm
    · rw [hlate]
      rintro ⟨r,h1,h2,h3⟩
      have:=h.le r h1 h2
      omega
    · rintro (h1|h1)
      · exact h1.2 (h.none h1.1)
      · obtain ⟨r,h2,h3⟩:=h.prom h1.1
        exact findF_neg.1 h1.2 r h2 h3
theorem scheck_iff {V:List VoterD} {R:List RoundD} (hu:∀ r∈R,inK .u8 r.2.2.1∧inK .u8 r.2.2.2.1):scheck (V,R,())=0↔SOk V R:=by
  have hd:scheck (V,R,())=if inF V.length 1 6=false∨30<R.length then 1 else if firstE (rndE V.length R) R.length≠0 then firstE (rndE V.length R) R.length else firstE (fun k=>vtrE R (V.getD k v00) (k:Int)) V.length:=rfl
  have rc:∀ {n:Nat} {i:Nat},n≤6→i<R.length→(rndE (n:Int) R i=0↔((1≤(R.getD i r00).1∧(R.getD i r00).1≤16777215)∧0≤(R.getD i r00).2.1∧(R.getD i r00).2.1<(R.getD i r00).1)∧(∀ x∈R.take i,x.1≠(R.getD i r00).1)∧(∀ k,bit (R.getD i r00).2.2.1 k=true∨bit (R.getD i r00).2.2.2.1 k=true→k<n)∧((R.getD i r00).2.2.2.1≠0→(R.getD i r00).2.2.2.2.1=true)∧((R.getD i r00).2.2.2.2.1=true→(n:Int)<2*ones (R.getD i r00).2.2.1)):=by
    intro n i hn hi
    have hr:=hu _ (getD_mem (d:=r00) hi)
    rw [rndE,rndC]
    generalize R.getD i r00=r at *
    generalize R.take i=pre at *
    have h1:((inF r.1 1 16777215=false∨inF r.2.1 0 (r.1 - 1)=false)↔¬ ((1≤r.1∧r.1≤16777215)∧0≤r.2.1∧r.2.1<r.1)):=by
      rw [inF_not,inF_not]; omega
    have h2:(pre.any (fun x=>isBal x r.1)=true↔¬ ∀ x∈pre,x.1≠r.1):=by
      rw [List.any_eq_true]
      constructor
      · rintro ⟨x,k1,k2⟩ hno
        exact hno x k1 (of_decide_eq_true k2)
      · intro hno
        refine Classical.byContradiction (fun hc=>hno (fun x hx e=>hc ⟨x,hx,decide_eq_true e⟩))
    have h3:(bOr .u8 r.2.2.1 r.2.2.2.1 / 2^min (Int.toNat (n:Int)) (IntKind.bits .u8)≠0↔¬ ∀ k,bit r.2.2.1 k=true∨bit r.2.2.2.1 k=true→k<n):=by
      rw [Ne,high0 or_in (by omega)]
      refine not_congr (forall_congr' (fun k=>?_))
      rw [or_bit hr.1 hr.2]
    constructor
    · intro h
      split at h
      · cases h
      rename_i c1
      split at h
      · cases h
      rename_i c2
      split at h
      · cases h
      rename_i c3
      refine ⟨Classical.byContradiction (fun hn=>c1 (h1.2 hn)),Classical.byContradiction (fun hn=>c2 (h2.2 hn)),Classical.byContradiction (fun hn=>c3 (.inl (h3.2 hn))),fun h4=>?_,fun h4=>?_⟩
      · cases e:r.2.2.2.2.1 with
        | true=>rfl
        | false=>exact absurd (.inr (.inl ⟨h4,e⟩)) c3
      · refine Classical.byContradiction (fun hn=>c3 (.inr (.inr ⟨h4,decide_eq_false hn⟩)))
    · rintro ⟨k1,k2,k3,k4,k5⟩
      rw [if_neg (fun h=>h1.1 h k1),if_neg (fun h=>h2.1 h k2),if_neg]
      rintro (h|h|h)
      · exact h3.1 h k3
      · rw [k4 h.1] at h; cases h.2
      · have:=k5 h.1
        have h9:=of_decide_eq_false h.2
        exact h9 this
  rw [hd]
  constructor
  · intro h
    split at h
    · cases h
    rename_i c1
    have hV:1≤V.length∧V.length≤6:=by
      cases e:inF V.length 1 6 with
      | false=>exact absurd (.inl e) c1
      | true=>have:=inF_iff.1 e; omega
    have hR:R.length≤30:=Nat.not_lt.1 (fun h9=>c1 (.inr h9))
    split at h
    · exact absurd h (by assumption)
    rename_i c2
    have c2:=fun i hi=>(rc hV.2 hi).1 (firstE_zero.1 (Decidable.not_not.1 c2) i hi)
    have mem:∀ {p:RoundD→Prop},(∀ i,i<R.length→p (R.getD i r00))→∀ r∈R,p r:=by
      intro p hp r hr
      obtain ⟨i,hi,e⟩:=mem_getD (d:=r00) hr
      rw [← e]; exact hp i hi
    have ho:R.Pairwise (fun a b=>a.1≠b.1):=by
      rw [List.pairwise_iff_getElem]
      intro i j hi hj hij
      have:=(c2 j hj).2.1 (R.getD i r00) (by
        rw [List.getD_eq_getElem?_getD,List.getElem?_eq_getElem hi]
        exact List.mem_iff_getElem.2 ⟨i,by rw [List.length_take]; omega,by simp⟩)
      rw [List.getD_eq_getElem?_getD,List.getD_eq_getElem?_getD,List.getElem?_eq_getElem hi,List.getElem?_eq_getElem hj] at this
      exact this
    have hrg:=mem (p:=fun r=>(1≤r.1∧r.1≤16777215)∧0≤r.2.1∧r.2.1<r.1) (fun i hi=>(c2 i hi).1)
    refine ⟨hV,hR,hu,hrg,ho,mem (fun i hi=>(c2 i hi).2.2.1),mem (fun i hi=>(c2 i hi).2.2.2.1),mem (fun i hi=>(c2 i hi).2.2.2.2),fun k hk=>?_⟩
    exact (vtr_iff (by omega) hu (fun r hr=>(hrg r hr).1.1) ho).1 (firstE_zero.1 h k hk)
  · intro h
    have hn:=h.n1
    have h30:=h.r30
    have z1:firstE (rndE V.length R) R.length=0:=firstE_zero.2 (fun i hi=>by
      have hm:=getD_mem (d:=r00) hi
      refine (rc hn.2 hi).2 ⟨h.rng _ hm,fun x hx e=>?_,h.bits _ hm,h.vask _ hm,h.amaj _ hm⟩
      obtain ⟨j,hj,e1⟩:=List.getElem_of_mem hx
      rw [List.getElem_take] at e1
      rw [List.length_take] at hj
      have:=List.pairwise_iff_getElem.1 h.one j i (by omega) hi (by omega)
      rw [e1] at this
      rw [List.getD_eq_getElem?_getD,List.getElem?_eq_getElem hi] at e
      exact this e)
    rw [if_neg (by rw [inF_not]; omega),if_neg (by rw [z1]; simp)]
    exact firstE_zero.2 (fun k hk=>(vtr_iff (by omega) hu (fun r hr=>(h.rng r hr).1.1) h.one).2 (h.vot k hk))
end Go.Proofs.Ytegigiecamjobaa
