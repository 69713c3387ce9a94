/- A synod's steps (Lamport): what is chosen stays, and nothing else is chosen: the plain law. No condition but those named. -/
import Derived.Test.YtegigiecamjobaaSynP
namespace Go.Proofs.Ytegigiecamjobaa
open Go.Ex
set_option maxRecDepth 100000
theorem mem_set_one {R:List RoundD} (ho:R.Pairwise (fun a b=>a.1≠b.1)) {i:Nat} (hi:i<R.length) {r':RoundD} {x:RoundD}:x∈R.set i r'↔x=r'∨(x∈R∧x.1≠(R.getD i r00).1):=by
  have hg:R.getD i r00=R[i]:=by rw [List.getD_eq_getElem?_getD,List.getElem?_eq_getElem hi]; rfl
  rw [hg]
  constructor
  · intro hx
    obtain ⟨j,hj,e⟩:=List.getElem_of_mem hx
    rw [List.length_set] at hj
    rw [List.getElem_set] at e
    split at e
    · exact .inl e.symm
    · rename_i hne
      refine .inr ⟨by rw [← e]; exact List.getElem_mem _,?_⟩
      rw [← e]
      rcases Nat.lt_or_ge i j with hlt|hge
      · exact fun h=>List.pairwise_iff_getElem.1 ho i j hi hj hlt h.symm
      · exact List.pairwise_iff_getElem.1 ho j i hj hi (by omega)
  · rintro (rfl|⟨h1,h2⟩)
    · exact List.mem_iff_getElem.2 ⟨i,by rw [List.length_set]; exact hi,by rw [List.getElem_set_self]⟩
    · obtain ⟨j,hj,e⟩:=List.getElem_of_mem h1
      refine List.mem_iff_getElem.2 ⟨j,by rw [List.length_set]; exact hj,?_⟩
      rw [List.getElem_set_ne,e]
      rintro rfl
      exact h2 (by rw [← e])
theorem set_one {R:List RoundD} (ho:R.Pairwise (fun a b=>a.1≠b.1)) {i:Nat} (hi:i<R.length) {r':RoundD} (e:r'.1=(R.getD i r00).1):(R.set i r').Pairwise (fun a b=>a.1≠b.1):=by
  have hg:R.getD i r00=R[i]:=by rw [List.getD_eq_getElem?_getD,List.getElem?_eq_getElem hi]; rfl
  rw [hg] at e
  rw [List.pairwise_iff_getElem] at ho ⊢
  intro j k hj hk hjk
  rw [List.length_set] at hj hk
  have:=ho j k hj hk hjk
  rw [List.getElem_set,List.getElem_set]
  split
  · rename_i h1
    subst h1
    rw [if_neg (by omega),e]; exact this
  · split
    · rename_i h1
      subst h1
      rw [e]; exact this
    · exact this
inductive Did (V:List VoterD) (R:List RoundD) (a:ActD):List VoterD→List RoundD→Prop
  | none:Did V R a V R
  | begun:a.1=1→(∀ r∈R,r.1≠a.2.1)→R.length<30→(1≤a.2.1∧a.2.1≤16777215)→Did V R a V (R++[(a.2.1,0,0,0,false,a.2.2.2.1,())])
  | late (w i:Nat) (r:RoundD):w<V.length→i<R.length→R.getD i r00=r→(V.getD w v00).1<r.1→Did V R a (V.set w (r.1,(V.getD w v00).2)) R
  | promised (w i:Nat) (r:RoundD):w<V.length→i<R.length→R.getD i r00=r→(V.getD w v00).1<r.1→r.2.2.2.2.1=false→r.2.1<(V.getD w v00).2.1 →
      Did V R a (V.set w (r.1,(V.getD w v00).2)) (R.set i (r.1,(V.getD w v00).2.1,bOr .u8 r.2.2.1 (shl8 (w:Int)),r.2.2.2.1,r.2.2.2.2.1,(V.getD w v00).2.2.1,()))
  | same (w i:Nat) (r:RoundD):w<V.length→i<R.length→R.getD i r00=r→(V.getD w v00).1<r.1→r.2.2.2.2.1=false→(V.getD w v00).2.1≤r.2.1 →
      Did V R a (V.set w (r.1,(V.getD w v00).2)) (R.set i (r.1,r.2.1,bOr .u8 r.2.2.1 (shl8 (w:Int)),r.2.2.2))
  | asked (i:Nat) (r:RoundD):i<R.length→R.getD i r00=r→Did V R a V (R.set i (r.1,r.2.1,r.2.2.1,r.2.2.2.1,r.2.2.2.2.1 || maj r.2.2.1 V.length,r.2.2.2.2.2))
  | voted (w i:Nat) (r:RoundD):w<V.length→i<R.length→R.getD i r00=r→r.2.2.2.2.1=true→(V.getD w v00).1≤r.1→Did V R a (V.set w (r.1,r.1,r.2.2.2.2.2.1,())) (R.set i (r.1,r.2.1,r.2.2.1,bOr .u8 r.2.2.2.1 (shl8 (w:Int)),r.2.2.2.2))
theorem step_facts {s:SynodD} {a:ActD} (h:stepE s a=0):scheck s=0∧(1≤a.1∧a.1≤4)∧(1≤a.2.1∧a.2.1≤16777215)∧(0≤a.2.2.1∧a.2.2.1<s.1.length)∧a.2.2.2.1.length≤200∧(a.1=1→findF s.2.1 a.2.1<0∧s.2.1.length≠30)∧(a.1≠1→0≤findF s.2.1 a.2.1):=by
  unfold stepE at h
  split at h
  · exact absurd h (by assumption)
  rename_i c1
  split at h
  · cases h
  rename_i c2
  split at h
  · cases h
  rename_i c3
  split at h
  · cases h
  rename_i c4
  split at h
  · cases h
  rename_i c5
  split at h
  · cases h
  rename_i c6
  simp only [not_or,Bool.not_eq_false,inF_iff] at c2
  refine ⟨Decidable.not_not.1 c1,c2.1,c2.2.1,by omega,by omega,fun e=>⟨Int.not_le.1 (fun h9=>c4 ⟨e,h9⟩),fun h9=>c5 ⟨e,by omega⟩⟩,fun e=>Int.not_lt.1 (fun h9=>c6 ⟨e,h9⟩)⟩
theorem did_step {V:List VoterD} {R:List RoundD} {a:ActD} (h:stepE (V,R,()) a=0) (hs:SOk V R):Did V R a (stepS (V,R,()) a).1 (stepS (V,R,()) a).2.1:=by
  obtain ⟨_,h1,h2,h3,h4,h5,h6⟩:=step_facts h
  rw [stepS]
  by_cases e:a.1=1
  · rw [if_pos e]
    obtain ⟨k1,k2⟩:=h5 e
    have:=hs.r30
    exact .begun e (findF_neg.1 k1) (by have k2:R.length≠30:=k2; omega) h2
  rw [if_neg e]
  obtain ⟨k1,k2⟩:=findF_at (h6 e)
  have k1:(findF R a.2.1).toNat<R.length:=k1
  have k2:(R.getD (findF R a.2.1).toNat r00).1=a.2.1:=k2
  show Did V R a (actF (V,R,()) (findF R a.2.1).toNat a).1 (actF (V,R,()) (findF R a.2.1).toNat a).2.1
  generalize (findF R a.2.1).toNat=i at *
  have hw:a.2.2.1.toNat<V.length:=by have h3:0≤a.2.2.1∧a.2.2.1<(V.length:Int):=h3; omega
  have ew:a.2.2.1=(a.2.2.1.toNat:Int):=by omega
  have hd:actF (V,R,()) i a=actG V R i a.2.2.1.toNat (V.getD a.2.2.1.toNat v00) (R.getD i r00) a.1 (R.getD i r00).1 (shl8 (a.2.2.1.toNat:Int)):=by rw [← ew,k2]; rfl
  rw [hd]
  generalize hr:R.getD i r00=r at *
  generalize a.2.2.1.toNat=w at *
  rw [actG]
  split
  · split
    · exact .none
    rename_i c1
    split
    · exact .late w i r hw k1 hr (by omega)
    rename_i c2
    have c2:r.2.2.2.2.1=false:=by simpa using c2
    split
    · rename_i c3; exact .promised w i r hw k1 hr (by omega) c2 c3
    · rename_i c3; exact .same w i r hw k1 hr (by omega) c2 (by omega)
  split
  · exact .asked i r k1 hr
  split
  · split
    · rename_i c4; exact .voted w i r hw k1 hr c4.1 c4.2
    · exact .none
  · exact .none
section
variable {V:List VoterD} {R:List RoundD} {v:VoterD} {k:Nat}
theorem SOk.w8 (h:SOk V R) {w:Nat} (hw:w<V.length):w<8:=by have:=h.n1; omega
theorem one_bit {x:Int} (hx:inK .u8 x) {w k:Nat} (hw:w<8):bit (bOr .u8 x (shl8 (w:Int))) k=true↔bit x k=true∨k=w:=by
  rw [or_bit hx (shl8_in _),shl8_bit hw,decide_eq_true_eq]
theorem VOk.turn (h:VOk R v k) {i:Nat} (hi:i<R.length) (ho:R.Pairwise (fun a b=>a.1≠b.1)) {r':RoundD} (e1:r'.1=(R.getD i r00).1) (hP:bit r'.2.2.1 k=true∨bit r'.2.2.2.1 k=true→r'.1≤v.1) (hV:bit r'.2.2.2.1 k=true→r'.1≤v.2.1)
    (hk:bit (R.getD i r00).2.2.2.1 k=true→bit r'.2.2.2.1 k=true∧r'.2.2.2.2.2.1=(R.getD i r00).2.2.2.2.2.1):VOk (R.set i r') v k:=by
  have hm:=getD_mem (d:=r00) hi
  have up:∀ r∈R,r.1=(R.getD i r00).1→r=R.getD i r00:=fun r hr e=>one_eq ho hr hm e
  refine ⟨h.pos,fun h0=>?_,fun x hx hb=>?_,fun x hx hb=>?_,fun h0=>?_,h.none⟩
  · obtain ⟨r,h1,h2⟩:=h.prom h0
    by_cases e:r.1=(R.getD i r00).1
    · exact ⟨r',(mem_set_one ho hi).2 (.inl rfl),by rw [e1,← e,h2]⟩
    · exact ⟨r,(mem_set_one ho hi).2 (.inr ⟨h1,e⟩),h2⟩
  · rcases (mem_set_one ho hi).1 hx with rfl|⟨h1,_⟩
    · exact hP hb
    · exact h.le x h1 hb
  · rcases (mem_set_one ho hi).1 hx with rfl|⟨h1,_⟩
    · exact hV hb
    · exact h.vle x h1 hb
  · obtain ⟨r,h1,h2,h3,h4⟩:=h.last h0
    by_cases e:r.1=(R.getD i r00).1
    · have e2:=up r h1 e
      rw [e2] at h3 h4 h2
      obtain ⟨k1,k2⟩:=hk h3
      exact ⟨r',(mem_set_one ho hi).2 (.inl rfl),by rw [e1,h2],k1,by rw [k2,h4]⟩
    · exact ⟨r,(mem_set_one ho hi).2 (.inr ⟨h1,e⟩),h2,h3,h4⟩
theorem VOk.more (h:VOk R v k) {r':RoundD} (h1:bit r'.2.2.1 k=false) (h2:bit r'.2.2.2.1 k=false):VOk (R++[r']) v k:=by
  have mem:∀ {x:RoundD},x∈R++[r']→x∈R∨x=r':=fun hx=>by
    rcases List.mem_append.1 hx with hx|hx
    · exact .inl hx
    · exact .inr (by simpa using hx)
  refine ⟨h.pos,fun h0=>?_,fun x hx hb=>?_,fun x hx hb=>?_,fun h0=>?_,h.none⟩
  · obtain ⟨r,k1,k2⟩:=h.prom h0
    exact ⟨r,List.mem_append_left _ k1,k2⟩
  · rcases mem hx with hx|rfl
    · exact h.le x hx hb
    · rw [h1,h2] at hb; simp at hb
  · rcases mem hx with hx|rfl
    · exact h.vle x hx hb
    · rw [h2] at hb; cases hb
  · obtain ⟨r,k1,k2⟩:=h.last h0
    exact ⟨r,List.mem_append_left _ k1,k2⟩
theorem SOk.turn (h:SOk V R) {V':List VoterD} (hl:V'.length=V.length) {i:Nat} (hi:i<R.length) {r':RoundD} (e1:r'.1=(R.getD i r00).1) (hu:inK .u8 r'.2.2.1∧inK .u8 r'.2.2.2.1) (hb:0≤r'.2.1∧r'.2.1<r'.1)
    (hbits:∀ k,bit r'.2.2.1 k=true∨bit r'.2.2.2.1 k=true→k<V.length) (hva:r'.2.2.2.1≠0→r'.2.2.2.2.1=true) (ham:r'.2.2.2.2.1=true→(V.length:Int)<2*ones r'.2.2.1)
    (hv:∀ k,k<V.length→VOk (R.set i r') (V'.getD k v00) k):SOk V' (R.set i r'):=by
  have mem:=fun {x:RoundD} (hx:x∈R.set i r')=>(mem_set_one h.one hi).1 hx
  have hm:=h.rng _ (getD_mem (d:=r00) hi)
  refine ⟨by rw [hl]; exact h.n1,by rw [List.length_set]; exact h.r30,fun x hx=>?_,fun x hx=>?_,set_one h.one hi e1,fun x hx=>?_,fun x hx=>?_,fun x hx=>?_,fun k hk=>hv k (by omega)⟩
  · rcases mem hx with rfl|hx; exact hu; exact h.u8 x hx.1
  · rcases mem hx with rfl|hx
    · exact ⟨by rw [e1]; exact hm.1,hb⟩
    · exact h.rng x hx.1
  · rw [hl]; rcases mem hx with rfl|hx; exact hbits; exact h.bits x hx.1
  · rcases mem hx with rfl|hx; exact hva; exact h.vask x hx.1
  · rw [hl]; rcases mem hx with rfl|hx; exact ham; exact h.amaj x hx.1
theorem v_set {V:List VoterD} {w:Nat} {v':VoterD} (hw:w<V.length) {p:VoterD→Nat→Prop} (h1:p v' w) (h2:∀ k,k<V.length→k≠w→p (V.getD k v00) k):∀ k,k<V.length→p ((V.set w v').getD k v00) k:=by
  intro k hk
  rw [getD_set hw]
  split
  · rename_i e; subst e; exact h1
  · rename_i e; exact h2 k hk e
theorem SOk.did (h:SOk V R) {a:ActD} {V':List VoterD} {R':List RoundD} (hd:Did V R a V' R'):SOk V' R':=by
  cases hd with
  | none=>exact h
  | begun e hn hl hb =>
    have mem:∀ {x:RoundD},x∈R++[(a.2.1,0,0,0,false,a.2.2.2.1,())]→x∈R∨x=(a.2.1,0,0,0,false,a.2.2.2.1,()):=fun hx=>by
      rcases List.mem_append.1 hx with hx|hx
      · exact .inl hx
      · exact .inr (by simpa using hx)
    have z:∀ k,bit 0 k=false:=fun k=>by simp [bit]
    have u0:inK .u8 0:=by decide
    refine ⟨h.n1,by rw [List.length_append,List.length_singleton]; omega,fun x hx=>?_,fun x hx=>?_,?_,fun x hx=>?_,fun x hx=>?_,fun x hx=>?_,fun k hk=>(h.vot k hk).more (z k) (z k)⟩
    · rcases mem hx with hx|rfl; exact h.u8 x hx; exact ⟨u0,u0⟩
    · rcases mem hx with hx|rfl; exact h.rng x hx; exact ⟨hb,Int.le_refl _,by show (0:Int)<a.2.1; omega⟩
    · refine List.pairwise_append.2 ⟨h.one,List.pairwise_singleton _ _,fun x hx y hy=>?_⟩
      rw [List.mem_singleton] at hy
      subst hy
      exact hn x hx
    · rcases mem hx with hx|rfl
      · exact h.bits x hx
      · intro k hk
        rcases hk with hk|hk<;>(rw [show bit 0 k=false from z k] at hk; cases hk)
    · rcases mem hx with hx|rfl; exact h.vask x hx; exact fun h0=>absurd rfl h0
    · rcases mem hx with hx|rfl; exact h.amaj x hx; exact fun h0=>by cases h0
  | late w i r hw hi hr hlt =>
    have hv:=h.vot w hw
    have hm:r∈R:=hr▸getD_mem (d:=r00) hi
    have hp:=hv.pos
    refine ⟨by rw [List.length_set]; exact h.n1,h.r30,h.u8,h.rng,h.one,by rw [List.length_set]; exact h.bits,h.vask,by rw [List.length_set]; exact h.amaj,?_⟩
    rw [List.length_set]
    refine v_set hw ?_ (fun k hk _=>h.vot k hk)
    exact ⟨⟨hp.1,by show (V.getD w v00).2.1≤r.1; omega⟩,fun _=>⟨r,hm,rfl⟩,fun x hx hb=>by have:=hv.le x hx hb; show x.1≤r.1; omega,hv.vle,hv.last,hv.none⟩
  | promised w i r hw hi hr hlt hna hbest =>
    have hv:=h.vot w hw
    have hm:r∈R:=hr▸getD_mem (d:=r00) hi
    have hp:=hv.pos
    have hu:=h.u8 r hm
    have hz:r.2.2.2.1=0:=Decidable.byContradiction (fun e=>by rw [h.vask r hm e] at hna; cases hna)
    have hnb:∀ k,bit r.2.2.2.1 k=false:=fun k=>by rw [hz]; simp [bit]
    have hb1:=fun k=>one_bit hu.1 (k:=k) (h.w8 hw)
    refine h.turn (by rw [List.length_set]) hi (by rw [hr]) ⟨or_in,hu.2⟩ ⟨hp.1,by show (V.getD w v00).2.1<r.1; omega⟩ (fun k hk=>?_) (fun h0=>absurd hz h0) (fun h0=>by have h0:r.2.2.2.2.1=true:=h0; rw [hna] at h0; cases h0) (v_set hw ?_ (fun k hk hne=>?_))
    · rcases hk with hk|hk
      · rcases (hb1 k).1 hk with hk|rfl
        · exact h.bits r hm k (.inl hk)
        · exact hw
      · exact h.bits r hm k (.inr hk)
    · have hv2:VOk R (r.1,(V.getD w v00).2) w:=⟨⟨hp.1,by show (V.getD w v00).2.1≤r.1; omega⟩,fun _=>⟨r,hm,rfl⟩,fun x hx hb=>by have:=hv.le x hx hb; show x.1≤r.1; omega,hv.vle,hv.last,hv.none⟩
      exact hv2.turn hi h.one (by rw [hr]) (fun _=>Int.le_refl _) (fun hb=>by have hb:bit r.2.2.2.1 w=true:=hb; rw [hnb] at hb; cases hb) (fun hb=>by rw [hr,hnb] at hb; cases hb)
    · refine (h.vot k hk).turn hi h.one (by rw [hr]) (fun hb=>?_) (fun hb=>by have hb:bit r.2.2.2.1 k=true:=hb; rw [hnb] at hb; cases hb) (fun hb=>by rw [hr,hnb] at hb; cases hb)
      refine (h.vot k hk).le r hm ?_
      rcases hb with hb|hb
      · rcases (hb1 k).1 hb with hb|hb
        · exact .inl hb
        · exact absurd hb hne
      · exact .inr hb
  | same w i r hw hi hr hlt hna hbest =>
    have hv:=h.vot w hw
    have hm:r∈R:=hr▸getD_mem (d:=r00) hi
    have hp:=hv.pos
    have hu:=h.u8 r hm
    have hz:r.2.2.2.1=0:=Decidable.byContradiction (fun e=>by rw [h.vask r hm e] at hna; cases hna)
    have hnb:∀ k,bit r.2.2.2.1 k=false:=fun k=>by rw [hz]; simp [bit]
    have hb1:=fun k=>one_bit hu.1 (k:=k) (h.w8 hw)
    refine h.turn (by rw [List.length_set]) hi (by rw [hr]) ⟨or_in,hu.2⟩ (h.rng r hm).2 (fun k hk=>?_) (fun h0=>absurd hz h0) (fun h0=>by have h0:r.2.2.2.2.1=true:=h0; rw [hna] at h0; cases h0) (v_set hw ?_ (fun k hk hne=>?_))
    · rcases hk with hk|hk
      · rcases (hb1 k).1 hk with hk|rfl
        · exact h.bits r hm k (.inl hk)
        · exact hw
      · exact h.bits r hm k (.inr hk)
    · have hv2:VOk R (r.1,(V.getD w v00).2) w:=⟨⟨hp.1,by show (V.getD w v00).2.1≤r.1; omega⟩,fun _=>⟨r,hm,rfl⟩,fun x hx hb=>by have:=hv.le x hx hb; show x.1≤r.1; omega,hv.vle,hv.last,hv.none⟩
      exact hv2.turn hi h.one (by rw [hr]) (fun _=>Int.le_refl _) (fun hb=>by have hb:bit r.2.2.2.1 w=true:=hb; rw [hnb] at hb; cases hb) (fun hb=>by rw [hr,hnb] at hb; cases hb)
    · refine (h.vot k hk).turn hi h.one (by rw [hr]) (fun hb=>?_) (fun hb=>by have hb:bit r.2.2.2.1 k=true:=hb; rw [hnb] at hb; cases hb) (fun hb=>by rw [hr,hnb] at hb; cases hb)
      refine (h.vot k hk).le r hm ?_
      rcases hb with hb|hb
      · rcases (hb1 k).1 hb with hb|hb
        · exact .inl hb
        · exact absurd hb hne
      · exact .inr hb
  | asked i r hi hr =>
    have hm:r∈R:=hr▸getD_mem (d:=r00) hi
    have hu:=h.u8 r hm
    refine h.turn rfl hi (by rw [hr]) hu (h.rng r hm).2 (h.bits r hm) (fun h0=>?_) (fun h0=>?_) (fun k hk=>?_)
    · show (r.2.2.2.2.1 || _)=true
      rw [h.vask r hm h0]; rfl
    · have h0:(r.2.2.2.2.1 || maj r.2.2.1 V.length)=true:=h0
      rw [Bool.or_eq_true] at h0
      rcases h0 with h0|h0
      · exact h.amaj r hm h0
      · exact of_decide_eq_true h0
    · exact (h.vot k hk).turn hi h.one (by rw [hr]) (fun hb=>(h.vot k hk).le r hm hb) (fun hb=>(h.vot k hk).vle r hm hb) (fun hb=>by rw [hr] at hb ⊢; exact ⟨hb,rfl⟩)
  | voted w i r hw hi hr hask hle =>
    have hv:=h.vot w hw
    have hm:r∈R:=hr▸getD_mem (d:=r00) hi
    have hp:=hv.pos
    have hu:=h.u8 r hm
    have h1:=(h.rng r hm).1
    have hb1:=fun k=>one_bit hu.2 (k:=k) (h.w8 hw)
    refine h.turn (by rw [List.length_set]) hi (by rw [hr]) ⟨hu.1,or_in⟩ (h.rng r hm).2 (fun k hk=>?_) (fun _=>hask) (fun _=>h.amaj r hm hask) (v_set hw ?_ (fun k hk hne=>?_))
    · rcases hk with hk|hk
      · exact h.bits r hm k (.inl hk)
      · rcases (hb1 k).1 hk with hk|rfl
        · exact h.bits r hm k (.inr hk)
        · exact hw
    · refine ⟨⟨by show 0≤r.1; omega,Int.le_refl _⟩,fun _=>⟨_,(mem_set_one h.one hi).2 (.inl rfl),rfl⟩,fun x hx hb=>?_,fun x hx hb=>?_,fun _=>⟨_,(mem_set_one h.one hi).2 (.inl rfl),rfl,(hb1 w).2 (.inr rfl),rfl⟩,fun h0=>by have h0:r.1=0:=h0; omega⟩
      · rcases (mem_set_one h.one hi).1 hx with rfl|hx
        · exact Int.le_refl _
        · have:=hv.le x hx.1 hb; show x.1≤r.1; omega
      · rcases (mem_set_one h.one hi).1 hx with rfl|hx
        · exact Int.le_refl _
        · have:=hv.vle x hx.1 hb; show x.1≤r.1; omega
    · refine (h.vot k hk).turn hi h.one (by rw [hr]) (fun hb=>?_) (fun hb=>?_) (fun hb=>?_)
      · refine (h.vot k hk).le r hm ?_
        rcases hb with hb|hb
        · exact .inl hb
        · rcases (hb1 k).1 hb with hb|hb
          · exact .inr hb
          · exact absurd hb hne
      · rcases (hb1 k).1 hb with hb|hb
        · exact (h.vot k hk).vle r hm hb
        · exact absurd hb hne
      · rw [hr] at hb ⊢
        exact ⟨(hb1 k).2 (.inl hb),rfl⟩
/-! ### Lamport's invariant -/
structure Pax (said:List (List UInt8)) (V:List VoterD) (R:List RoundD):Prop extends SOk V R where
  j1:∀ x∈R,∀ y∈R,∀ k,bit x.2.2.1 k=true→bit y.2.2.2.1 k=true→y.1<x.1→y.1≤x.2.1
  j2:∀ x∈R,x.2.1=0∨∃ y∈R,y.1=x.2.1∧y.2.2.2.1≠0∧y.2.2.2.2.2.1=x.2.2.2.2.2.1
  j3:∀ x∈R,x.2.2.2.2.2.1∈said
def Up (R R':List RoundD):Prop:=∀ r∈R,r.2.2.2.1≠0→∃ r'∈R',r'.1=r.1∧r'.2.2.2.1≠0∧(∀ k,bit r.2.2.2.1 k=true→bit r'.2.2.2.1 k=true)∧r'.2.2.2.2.2.1=r.2.2.2.2.2.1
theorem Up.refl (R:List RoundD):Up R R:=fun r hr h0=>⟨r,hr,rfl,h0,fun _ h=>h,rfl⟩
theorem Up.trans {R R' R'':List RoundD} (h:Up R R') (h':Up R' R''):Up R R'':=fun r hr h0=>by
  obtain ⟨r',h1,h2,h3,h4,h5⟩:=h r hr h0
  obtain ⟨r'',k1,k2,k3,k4,k5⟩:=h' r' h1 h3
  exact ⟨r'',k1,by rw [k2,h2],k3,fun k hk=>k4 k (h4 k hk),by rw [k5,h5]⟩
theorem Up.set (h:SOk V R) {i:Nat} (hi:i<R.length) {r':RoundD} (e1:r'.1=(R.getD i r00).1) (hk:(R.getD i r00).2.2.2.1≠0→r'.2.2.2.1≠0∧(∀ k,bit (R.getD i r00).2.2.2.1 k=true→bit r'.2.2.2.1 k=true)∧r'.2.2.2.2.2.1=(R.getD i r00).2.2.2.2.2.1):Up R (R.set i r'):=by
  intro r hr h0
  by_cases e:r.1=(R.getD i r00).1
  · have e2:=one_eq h.one hr (getD_mem (d:=r00) hi) e
    rw [← e2] at hk e1
    obtain ⟨k1,k2,k3⟩:=hk h0
    exact ⟨r',(mem_set_one h.one hi).2 (.inl rfl),e1,k1,k2,k3⟩
  · exact ⟨r,(mem_set_one h.one hi).2 (.inr ⟨hr,e⟩),rfl,h0,fun _ h=>h,rfl⟩
theorem SOk.up (h:SOk V R) {a:ActD} {V':List VoterD} {R':List RoundD} (hd:Did V R a V' R'):Up R R':=by
  cases hd with
  | none=>exact .refl _
  | late=>exact .refl _
  | begun=>exact fun r hr h0=>⟨r,List.mem_append_left _ hr,rfl,h0,fun _ h=>h,rfl⟩
  | promised w i r hw hi hr hlt hna hbest =>
    have hm:r∈R:=hr▸getD_mem (d:=r00) hi
    exact Up.set h hi (by rw [hr]) (fun h0=>by rw [hr] at h0; rw [h.vask r hm h0] at hna; cases hna)
  | same w i r hw hi hr hlt hna hbest=>exact Up.set h hi (by rw [hr]) (fun h0=>by rw [hr] at h0 ⊢; exact ⟨h0,fun _ h=>h,rfl⟩)
  | asked i r hi hr=>exact Up.set h hi (by rw [hr]) (fun h0=>by rw [hr] at h0 ⊢; exact ⟨h0,fun _ h=>h,rfl⟩)
  | voted w i r hw hi hr hask hle =>
    have hm:r∈R:=hr▸getD_mem (d:=r00) hi
    have hb1:=fun k=>one_bit (h.u8 r hm).2 (k:=k) (h.w8 hw)
    exact Up.set h hi (by rw [hr]) (fun h0=>by rw [hr] at h0 ⊢; exact ⟨bit_nz ((hb1 w).2 (.inr rfl)),fun k hk=>(hb1 k).2 (.inl hk),rfl⟩)
theorem Pax.did {said:List (List UInt8)} (h:Pax said V R) {a:ActD} {V':List VoterD} {R':List RoundD} (hd:Did V R a V' R'):Pax (if a.1=1 then said++[a.2.2.2.1] else said) V' R':=by
  have hs:=h.toSOk
  have hs':=hs.did hd
  have hup:=hs.up hd
  have sub:∀ {t:List UInt8},t∈said→t∈(if a.1=1 then said++[a.2.2.2.1] else said):=fun ht=>by
    split
    · exact List.mem_append_left _ ht
    · exact ht
  -- the round that a best vote is of, in the new state
  have keep:∀ {b:Int} {t:List UInt8},(b=0∨∃ y∈R,y.1=b∧y.2.2.2.1≠0∧y.2.2.2.2.2.1=t)→(b=0∨∃ y∈R',y.1=b∧y.2.2.2.1≠0∧y.2.2.2.2.2.1=t):=by
    rintro b t (hb|⟨y,y1,y2,y3,y4⟩)
    · exact .inl hb
    · obtain ⟨z,z1,z2,z3,z4,z5⟩:=hup y y1 y3
      exact .inr ⟨z,z1,by rw [z2,y2],z3,by rw [z5,y4]⟩
  cases hd with
  | none=>exact { hs' with j1:=h.j1,j2:=h.j2,j3:=fun x hx=>sub (h.j3 x hx) }
  | late=>exact { hs' with j1:=h.j1,j2:=h.j2,j3:=fun x hx=>sub (h.j3 x hx) }
  | begun e hn hl hb =>
    have mem:∀ {x:RoundD},x∈R++[(a.2.1,0,0,0,false,a.2.2.2.1,())]→x∈R∨x=(a.2.1,0,0,0,false,a.2.2.2.1,()):=fun hx=>by
      rcases List.mem_append.1 hx with hx|hx
      · exact .inl hx
      · exact .inr (by simpa using hx)
    have z:∀ k,bit 0 k=false:=fun k=>by simp [bit]
    refine { hs' with j1:=fun x hx y hy k hk1 hk2 hlt=>?_,j2:=fun x hx=>?_,j3:=fun x hx=>?_ }
    · rcases mem hx with hx|rfl
      · rcases mem hy with hy|rfl
        · exact h.j1 x hx y hy k hk1 hk2 hlt
        · rw [show bit 0 k=false from z k] at hk2; cases hk2
      · rw [show bit 0 k=false from z k] at hk1; cases hk1
    · rcases mem hx with hx|rfl
      · exact keep (h.j2 x hx)
      · exact .inl rfl
    · rcases mem hx with hx|rfl
      · exact sub (h.j3 x hx)
      · rw [if_pos e]; simp
  | promised w i r hw hi hr hlt hna hbest =>
    have hm:r∈R:=hr▸getD_mem (d:=r00) hi
    have hv:=hs.vot w hw
    have hz:r.2.2.2.1=0:=Decidable.byContradiction (fun e=>by rw [hs.vask r hm e] at hna; cases hna)
    have hnb:∀ k,bit r.2.2.2.1 k=false:=fun k=>by rw [hz]; simp [bit]
    have hb1:=fun k=>one_bit (hs.u8 r hm).1 (k:=k) (hs.w8 hw)
    have mem:=fun {x:RoundD} {r':RoundD} (hx:x∈R.set i r')=>(mem_set_one hs.one hi).1 hx
    obtain ⟨q,q1,q2,q3,q4⟩:=hv.last (by have:=(hs.rng r hm).2; omega)
    refine { hs' with j1:=fun x hx y hy k hk1 hk2 hlt=>?_,j2:=fun x hx=>?_,j3:=fun x hx=>?_ }
    · have hy2:y∈R:=by
        rcases mem hy with rfl|hy
        · have hk2:bit r.2.2.2.1 k=true:=hk2
          rw [hnb] at hk2; cases hk2
        · exact hy.1
      rcases mem hx with rfl|hx
      · show y.1≤(V.getD w v00).2.1
        rcases (hb1 k).1 hk1 with hk1|rfl
        · have:=h.j1 r hm y hy2 k hk1 hk2 hlt; omega
        · exact hv.vle y hy2 hk2
      · exact h.j1 x hx.1 y hy2 k hk1 hk2 hlt
    · rcases mem hx with rfl|hx
      · exact keep (.inr ⟨q,q1,q2,bit_nz q3,q4⟩)
      · exact keep (h.j2 x hx.1)
    · rcases mem hx with rfl|hx
      · exact sub (q4▸h.j3 q q1)
      · exact sub (h.j3 x hx.1)
  | same w i r hw hi hr hlt hna hbest =>
    have hm:r∈R:=hr▸getD_mem (d:=r00) hi
    have hv:=hs.vot w hw
    have hz:r.2.2.2.1=0:=Decidable.byContradiction (fun e=>by rw [hs.vask r hm e] at hna; cases hna)
    have hnb:∀ k,bit r.2.2.2.1 k=false:=fun k=>by rw [hz]; simp [bit]
    have hb1:=fun k=>one_bit (hs.u8 r hm).1 (k:=k) (hs.w8 hw)
    have mem:=fun {x:RoundD} {r':RoundD} (hx:x∈R.set i r')=>(mem_set_one hs.one hi).1 hx
    refine { hs' with j1:=fun x hx y hy k hk1 hk2 hlt=>?_,j2:=fun x hx=>?_,j3:=fun x hx=>?_ }
    · have hy2:y∈R:=by
        rcases mem hy with rfl|hy
        · have hk2:bit r.2.2.2.1 k=true:=hk2
          rw [hnb] at hk2; cases hk2
        · exact hy.1
      rcases mem hx with rfl|hx
      · show y.1≤r.2.1
        rcases (hb1 k).1 hk1 with hk1|rfl
        · exact h.j1 r hm y hy2 k hk1 hk2 hlt
        · have:=hv.vle y hy2 hk2; omega
      · exact h.j1 x hx.1 y hy2 k hk1 hk2 hlt
    · rcases mem hx with rfl|hx
      · exact keep (h.j2 r hm)
      · exact keep (h.j2 x hx.1)
    · rcases mem hx with rfl|hx
      · exact sub (h.j3 r hm)
      · exact sub (h.j3 x hx.1)
  | asked i r hi hr =>
    have hm:r∈R:=hr▸getD_mem (d:=r00) hi
    have mem:=fun {x:RoundD} {r':RoundD} (hx:x∈R.set i r')=>(mem_set_one hs.one hi).1 hx
    have old:∀ {x:RoundD},x∈R.set i (r.1,r.2.1,r.2.2.1,r.2.2.2.1,r.2.2.2.2.1 || maj r.2.2.1 V.length,r.2.2.2.2.2)→∃ z∈R,z.1=x.1∧z.2.1=x.2.1∧z.2.2.1=x.2.2.1∧z.2.2.2.1=x.2.2.2.1∧z.2.2.2.2.2.1=x.2.2.2.2.2.1:=fun hx=>by
      rcases mem hx with rfl|hx
      · exact ⟨r,hm,rfl,rfl,rfl,rfl,rfl⟩
      · exact ⟨_,hx.1,rfl,rfl,rfl,rfl,rfl⟩
    refine { hs' with j1:=fun x hx y hy k hk1 hk2 hlt=>?_,j2:=fun x hx=>?_,j3:=fun x hx=>?_ }
    · obtain ⟨x',x1,x2,x3,x4,x5,x6⟩:=old hx
      obtain ⟨y',y1,y2,y3,y4,y5,y6⟩:=old hy
      rw [← x4] at hk1
      rw [← y5] at hk2
      rw [← x3,← y2]
      exact h.j1 x' x1 y' y1 k hk1 hk2 (by omega)
    · obtain ⟨x',x1,x2,x3,x4,x5,x6⟩:=old hx
      rw [← x3,← x6]
      exact keep (h.j2 x' x1)
    · obtain ⟨x',x1,x2,x3,x4,x5,x6⟩:=old hx
      rw [← x6]; exact sub (h.j3 x' x1)
  | voted w i r hw hi hr hask hle =>
    have hm:r∈R:=hr▸getD_mem (d:=r00) hi
    have hv:=hs.vot w hw
    have hb1:=fun k=>one_bit (hs.u8 r hm).2 (k:=k) (hs.w8 hw)
    have mem:=fun {x:RoundD} {r':RoundD} (hx:x∈R.set i r')=>(mem_set_one hs.one hi).1 hx
    have oldP:∀ {x:RoundD},x∈R.set i (r.1,r.2.1,r.2.2.1,bOr .u8 r.2.2.2.1 (shl8 (w:Int)),r.2.2.2.2)→∃ z∈R,z.1=x.1∧z.2.1=x.2.1∧z.2.2.1=x.2.2.1∧z.2.2.2.2.2.1=x.2.2.2.2.2.1:=fun hx=>by
      rcases mem hx with rfl|hx
      · exact ⟨r,hm,rfl,rfl,rfl,rfl⟩
      · exact ⟨_,hx.1,rfl,rfl,rfl,rfl⟩
    refine { hs' with j1:=fun x hx y hy k hk1 hk2 hlt=>?_,j2:=fun x hx=>?_,j3:=fun x hx=>?_ }
    · obtain ⟨x',x1,x2,x3,x4,x5⟩:=oldP hx
      rw [← x4] at hk1
      rw [← x3]
      rcases mem hy with rfl|hy
      · rcases (hb1 k).1 hk2 with hk2|rfl
        · exact h.j1 x' x1 r hm k hk1 hk2 (by rw [x2]; exact hlt)
        · have:=hv.le x' x1 (.inl hk1)
          have hlt:r.1<x.1:=hlt
          omega
      · exact h.j1 x' x1 y hy.1 k hk1 hk2 (by omega)
    · obtain ⟨x',x1,x2,x3,x4,x5⟩:=oldP hx
      rw [← x3,← x5]
      exact keep (h.j2 x' x1)
    · obtain ⟨x',x1,x2,x3,x4,x5⟩:=oldP hx
      rw [← x5]; exact sub (h.j3 x' x1)
theorem Pax.follow {said:List (List UInt8)} (h:Pax said V R) {r:RoundD} (hr:r∈R) (hm:(V.length:Int)<2*ones r.2.2.2.1):∀ (m:Nat) (x:RoundD),x∈R→x.2.2.2.1≠0→r.1≤x.1→x.1.toNat<m→x.2.2.2.2.2.1=r.2.2.2.2.2.1
  | 0,_,_,_,_,hlt=>by omega
  | m+1,x,hx,h0,hle,hlt=>by
    by_cases e:x.1=r.1
    · rw [one_eq h.one hx hr e]
    have ha:=h.amaj x hx (h.vask x hx h0)
    obtain ⟨k,k1,k2⟩:=maj_meet h.n1.2 (fun k hk=>h.bits x hx k (.inl hk)) (fun k hk=>h.bits r hr k (.inr hk)) ha hm
    have h1:=h.j1 x hx r hr k k1 k2 (by omega)
    have h2:=h.rng r hr
    have h3:=h.rng x hx
    rcases h.j2 x hx with h4|⟨y,y1,y2,y3,y4⟩
    · omega
    · rw [← y4]
      exact h.follow hr hm m y y1 y3 (by omega) (by omega)
theorem Pax.agree {said:List (List UInt8)} (h:Pax said V R) {r x:RoundD} (hr:r∈R) (hx:x∈R) (hm:(V.length:Int)<2*ones r.2.2.2.1) (hm':(V.length:Int)<2*ones x.2.2.2.1):x.2.2.2.2.2.1=r.2.2.2.2.2.1:=by
  rcases Int.le_total r.1 x.1 with hle|hle
  · exact h.follow hr hm _ x hx (maj_nz (by omega) hm') hle (Nat.lt_succ_self _)
  · exact (h.follow hx hm' _ r hr (maj_nz (by omega) hm) hle (Nat.lt_succ_self _)).symm
end
end Go.Proofs.Ytegigiecamjobaa
