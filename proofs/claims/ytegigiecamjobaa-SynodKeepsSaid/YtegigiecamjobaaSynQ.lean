/- A synod's steps (Lamport): what is chosen stays, and nothing else is chosen: the plain law. No condition but those named. -/
import Derived.Test.YtegigiecamjobaaSynP
namespace Go.Proofs.Ytegigiecamjobaa
open Go.Ex
set_option maxRecDepth 100000
theorem mem_set_one {R:List RoundD} (ho:R.Pairwise (fun a b=>a.1≠b.1)) {i:Nat} (hi:i<R.length) {r':RoundD} {x:RoundD}:x∈R.set i r'↔x=r'∨(x∈R∧x.1≠(R.getD i r00).1):=by
  have hg:R.getD i r00=R[i]:=by rw [List.getD_eq_getElem?_getD,List.getElem?_eq_getElem hi]; rfl
  rw [hg]
  constructor
  · intro hx
    obtain ⟨j,hj,e⟩:=List.getElem_of_mem hx
    rw [List.length_set] at hj
    rw [List.getElem_set] at e
    split at e
    · exact .inl e.symm
    · rename_i hne
      refine .inr ⟨by rw [← e]; exact List.getElem_mem _,?_⟩
      rw [← e]
      rcases Nat.lt_or_ge i j with hlt|hge
      · exact fun h=>List.pairwise_iff_getElem.1 ho i j hi hj hlt h.symm
      · exact List.pairwise_iff_getElem.1 ho j i hj hi (by omega)
  · rintro (rfl|⟨h1,h2⟩)
    · exact List.mem_iff_getElem.2 ⟨i,by rw [List.length_set]; exact hi,by rw [List.getElem_set_self]⟩
    · obtain ⟨j,hj,e⟩:=List.getElem_of_mem h1
      refine List.mem_iff_getElem.2 ⟨j,by rw [List.length_set]; exact hj,?_⟩
      rw [List.getElem_set_ne,e]
      rintro rfl
      exact h2 (by rw [← e])
theorem set_one {R:List RoundD} (ho:R.Pairwise (fun a b=>a.1≠b.1)) {i:Nat} (hi:i<R.length) {r':RoundD} (e:r'.1=(R.getD i r00).1):(R.set i r').Pairwise (fun a b=>a.1≠b.1):=by
  have hg:R.getD i r00=R[i]:=by rw [List.getD_eq_getElem?_getD,List.getElem?_eq_getElem hi]; rfl
  rw [hg] at e
  rw [List.pairwise_iff_getElem] at ho ⊢
  intro j k hj hk hjk
  rw [List.length_set] at hj hk
  have:=ho j k hj hk hjk
  rw [List.getElem_set,List.getElem_set]
  split
  · rename_i h1
    subst h1
    rw [if_neg (by omega),e]; exact this
  · split
    · rename_i h1
      subst h1
      rw [e]; exact this
    · exact this
inductive Did (V:List VoterD) (R:List RoundD) (a:ActD):List VoterD→List RoundD→Prop
  | none:Did V R a V R
  | begun:a.1=1→(∀ r∈R,r.1≠a.2.1)→R.length<30→(1≤a.2.1∧a.2.1≤16777215)→Did V R a V (R++[(a.2.1,0,0,0,false,a.2.2.2.1,())])
  | late (w i:Nat) (r:RoundD):w<V.length→i<R.length→R.getD i r00=r→(V.getD w v00).1<r.1→Did V R a (V.set w (r.1,(V.getD w v00).2)) R
  | promised (w i:Nat) (r:RoundD):w<V.length→i<R.length→R.getD i r00=r→(V.getD w v00).1<r.1→r.2.2.2.2.1=false→r.2.1<(V.getD w v00).2.1 →
      Did V R a (V.set w (r.1,(V.getD w v00).2)) (R.set i (r.1,(V.getD w v00).2.1,bOr .u8 r.2.2.1 (shl8 (w:Int)),r.2.2.2.1,r.2.2.2.2.1,(V.getD w v00).2.2.1,()))
  | same (w i:Nat) (r:RoundD):w<V.length→i<R.length→R.getD i r00=r→(V.getD w v00).1<r.1→r.2.2.2.2.1=false→(V.getD w v00).2.1≤r.2.1 →
      Did V R a (V.set w (r.1,(V.getD w v00).2)) (R.set i (r.1,r.2.1,bOr .u8 r.2.2.1 (shl8 (w:Int)),r.2.2.2))
  | asked (i:Nat) (r:RoundD):i<R.length→R.getD i r00=r→Did V R a V (R.set i (r.1,r.2.1,r.2.2.1,r.2.2.2.1,r.2.2.2.2.1 || maj r.2.2.1 V.length,r.2.2.2.2.2))
  | voted (w i:Nat) (r:RoundD):w<V.length→i<R.length→R.getD i r00=r→r.2.2.2.2.1=true→(V.getD w v00).1≤r.1→Did V R a (V.set w (r.1,r.1,r.2.2.2.2.2.1,())) (R.set i (r.1,r.2.1,r.2.2.1,bOr .u8 r.2.2.2.1 (shl8 (w:Int)),r.2.2.2.2))
theorem step_facts {s:SynodD} {a:ActD} (h:stepE s a=0):scheck s=0∧(1≤a.1∧a.1≤4)∧(1≤a.2.1∧a.2.1≤16777215)∧(0≤a.2.2.1∧a.2.2.1<s.1.length)∧a.2.2.2.1.length≤200∧(a.1=1→findF s.2.1 a.2.1<0∧s.2.1.length≠30)∧(a.1≠1→0≤findF s.2.1 a.2.1):=by
  unfold stepE at h
  split at h
  · exact absurd h (by assumption)
  rename_i c1
  split at h
  · cases h
  rename_i c2
  split at h
  · cases h
  rename_i c3
  split at h
  · cases h
  rename_i c4
  split at h
  · cases h
  rename_i c5
  split at h
  · cases h
  rename_i c6
  simp only [not_or,Bool.not_eq_false,inF_iff] at c2
  refine ⟨Decidable.not_not.1 c1,c2.1,c2.2.1,by omega,by omega,fun e=>⟨Int.not_le.1 (fun h9=>c4 ⟨e,h9⟩),fun h9=>c5 ⟨e,by omega⟩⟩,fun e=>Int.not_lt.1 (fun h9=>c6 ⟨e,h9⟩)⟩
theorem did_step {V:List VoterD} {R:List RoundD} {a:ActD} (h:stepE (V,R,()) a=0) (hs:SOk V R):Did V R a (stepS (V,R,()) a).1 (stepS (V,R,()) a).2.1:=by
  obtain ⟨_,h1,h2,h3,h4,h5,h6⟩:=step_facts h
  rw [stepS]
  by_cases e:a.1=1
  · rw [if_pos e]
    obtain ⟨k1,k2⟩:=h5 e
    have:=hs.r30
    exact .begun e (findF_neg.1 k1) (by have k2:R.length≠30:=k2; omega) h2
  rw [if_neg e]
  obtain ⟨k1,k2⟩:=findF_at (h6 e)
  have k1:(findF R a.2.1).toNat<R.length:=k1
  have k2:(R.getD (findF R a.2.1).toNat r00).1=a.2.1:=k2
  show Did V R a (actF (V,R,()) (findF R a.2.1).toNat a).1 (actF (V,R,()) (findF R a.2.1).toNat a).2.1
  generalize (findF R a.2.1).toNat=i at *
  have hw:a.2.2.1.toNat<V.length:=by have h3:0≤a.2.2.1∧a.2.2.1<(V.length:Int):=h3; omega
  have ew:a.2.2.1=(a.2.2.1.toNat:Int):=by omega
  have hd:actF (V,R,()) i a=actG V R i a.2.2.1.toNat (V.getD a.2.2.1.toNat v00) (R.getD i r00) a.1 (R.getD i r00).1 (shl8 (a.2.2.1.toNat:Int)):=by rw [← ew,k2]; rfl
  rw [hd]
  generalize hr:R.getD i r00=r at *
  generalize a.2.2.1.toNat=w at *
  rw [actG]
  split
  · split
    · exact .none
    rename_i c1
    split
    · exact .late w i r hw k1 hr (by omega)
    rename_i c2
    have c2:r.2.2.2.2.1=false:=by simpa using c2
    split
    · rename_i c3; exact .promised w i r hw k1 hr (by omega) c2 c3
    · rename_i c3; exact .same w i r hw k1 hr (by omega) c2 (by omega)
  split
  · exact .asked i r k1 hr
  split
  · split
    · rename_i c4; exact .voted w i r hw k1 hr c4.1 c4.2
    · exact .none
  · exact .none
section
variable {V:List VoterD} {R:List RoundD} {v:VoterD} {k:Nat}
theorem SOk.w8 (h:SOk V R) {w:Nat} (hw:w<V.length):w<8:=by have:=h.n1; omega
theorem one_bit {x:Int} (hx:inK .u8 x) {w k:Nat} (hw:w<8):bit (bOr .u8 x (shl8 (w:Int))) k=true↔bit x k=true∨k=w:=by
  rw [or_bit hx (shl8_in _),shl8_bit hw,decide_eq_true_eq]
theorem VOk.turn (h:VOk R v k) {i:Nat} (hi:i<R.length) (ho:R.Pairwise (fun a b=>a.1≠b.1)) {r':RoundD} (e1:r'.1=(R.getD i r00).1) (hP:bit r'.2.2.1 k=true∨bit r'.2.2.2.1 k=true→r'.1≤v.1) (hV:bit r'.2.2.2.1 k=true→r'.1≤v.2.1)
    (hk:bit (R.getD i r00).2.2.2.1 k=true→bit r'.2.2.2.1 k=true∧r'.2.2.2.2.2.1=(R.getD i r00).2.2.2.2.2.1):VOk (R.set i r') v k:=by
  have hm:=getD_mem (d:=r00) hi
  have up:∀ r∈R,r.1=(R.getD i r00).1→r=R.getD i r00:=fun r hr e=>one_eq ho hr hm e
  refine ⟨h.pos,fun h0=>?_,fun x hx hb=>?_,fun x hx hb=>?_,fun h0=>?_,h.none⟩
  · obtain ⟨r,h1,h2⟩:=h.prom h0
    by_cases e:r.1=(R.getD i r00).1
    · exact ⟨r',(mem_set_one ho hi).2 (.inl rfl),by rw [e1,← e,h2]⟩
    · exact ⟨r,(mem_set_one ho hi).2 (.inr ⟨h1,e⟩),h2⟩
  · rcases (mem_set_one ho hi).1 hx with rfl|⟨h1,_⟩
    · exact hP hb
    · exact h.le x h1 hb
  · rcases (mem_set_one ho hi).1 hx with rfl|⟨h1,_⟩
    · exact hV hb
    · exact h.vle x h1 hb
  · obtain ⟨r,h1,h2,h3,h4⟩:=h.last h0
    by_cases e:r.1=(R.getD i r00).1
    · have e2:=up r h1 e
      rw [e2] at h3 h4 h2
      obtain ⟨k1,k2⟩:=hk h3
      exact ⟨r',(mem_set_one ho hi).2 (.inl rfl),by rw [e1,h2],k1,by rw [k2,h4]⟩
    · exact ⟨r,(mem_set_one ho hi).2 (.inr ⟨h1,e⟩),h2,h3,h4⟩
theorem SOk.turn (h:SOk V R) {V':List VoterD} (hl:V'.length=V.length) {i:Nat} (hi:i<R.length) {r':RoundD} (e1:r'.1=(R.getD i r00).1) (hu:inK .u8 r'.2.2.1∧inK .u8 r'.2.2.2.1) (hb:0≤r'.2.1∧r'.2.1<r'.1)
    (hbits:∀ k,bit r'.2.2.1 k=true∨bit r'.2.2.2.1 k=true→k<V.length) (hva:r'.2.2.2.1≠0→r'.2.2.2.2.1=true) (ham:r'.2.2.2.2.1=true→(V.length:Int)<2*ones r'.2.2.1)
    (hv:∀ k,k<V.length→VOk (R.set i r') (V'.getD k v00) k):SOk V' (R.set i r'):=by
  have mem:=fun {x:RoundD} (hx:x∈R.set i r')=>(mem_set_one h.one hi).1 hx
  have hm:=h.rng _ (getD_mem (d:=r00) hi)
  refine ⟨by rw [hl]; exact h.n1,by rw [List.length_set]; exact h.r30,fun x hx=>?_,fun x hx=>?_,set_one h.one hi e1,fun x hx=>?_,fun x hx=>?_,fun x hx=>?_,fun k hk=>hv k (by omega)⟩
  · rcases mem hx with rfl|hx; exact hu; exact h.u8 x hx.1
  · rcases mem hx with rfl|hx
    · exact ⟨by rw [e1]; exact hm.1,hb⟩
    · exact h.rng x hx.1
  · rw [hl]; rcases mem hx with rfl|hx; exact hbits; exact h.bits x hx.1
  · rcases mem hx with rfl|hx; exact hva; exact h.vask x hx.1
  · rw [hl]; rcases mem hx with rfl|hx; exact ham; exact h.amaj x hx.1
theorem v_set {V:List VoterD} {w:Nat} {v':VoterD} (hw:w<V.length) {p:VoterD→Nat→Prop} (h1:p v' w) (h2:∀ k,k<V.length→k≠w→p (V.getD k v00) k):∀ k,k<V.length→p ((V.set w v').getD k v00) k:=by
  intro k hk
  rw [getD_set hw]
  split
  · rename_i e; subst e; exact h1
  · rename_i e; exact h2 k hk e
/-! ### Lamport's invariant -/
structure Pax (said:List (List UInt8)) (V:List VoterD) (R:List RoundD):Prop extends SOk V R where
  j1:∀ x∈R,∀ y∈R,∀ k,bit x.2.2.1 k=true→bit y.2.2.2.1 k=true→y.1<x.1→y.1≤x.2.1
  j2:∀ x∈R,x.2.1=0∨∃ y∈R,y.1=x.2.1∧y.2.2.2.1≠0∧y.2.2.2.2.2.1=x.2.2.2.2.2.1
  j3:∀ x∈R,x.2.2.2.2.2.1∈said
def Up (R R':List RoundD):Prop:=∀ r∈R,r.2.2.2.1≠0→∃ r'∈R',r'.1=r.1∧r'.2.2.2.1≠0∧(∀ k,bit r.2.2.2.1 k=true→bit r'.2.2.2.1 k=true)∧r'.2.2.2.2.2.1=r.2.2.2.2.2.1
theorem Up.refl (R:List RoundD):Up R R:=fun r hr h0=>⟨r,hr,rfl,h0,fun _ h=>h,rfl⟩
theorem Up.trans {R R' R'':List RoundD} (h:Up R R') (h':Up R' R''):Up R R'':=fun r hr h0=>by
  obtain ⟨r',h1,h2,h3,h4,h5⟩:=h r hr h0
  obtain ⟨r'',k1,k2,k3,k4,k5⟩:=h' r' h1 h3
  exact ⟨r'',k1,by rw [k2,h2],k3,fun k hk=>k4 k (h4 k hk),by rw [k5,h5]⟩
theorem Up.set (h:SOk V R) {i:Nat} (hi:i<R.length) {r':RoundD} (e1:r'.1=(R.getD i r00).1) (hk:(R.getD i r00).2.2.2.1≠0→r'.2.2.2.1≠0∧(∀ k,bit (R.getD i r00).2.2.2.1 k=true→bit r'.2.2.2.1 k=true)∧r'.2.2.2.2.2.1=(R.getD i r00).2.2.2.2.2.1):Up R (R.set i r'):=by
  intro r hr h0
  by_cases e:r.1=(R.getD i r00).1
  · have e2:=one_eq h.one hr (getD_mem (d:=r00) hi) e
    rw [← e2] at hk e1
    obtain ⟨k1,k2,k3⟩:=hk h0
    exact ⟨r',(mem_set_one h.one hi).2 (.inl rfl),e1,k1,k2,k3⟩
  · exact ⟨r,(mem_set_one h.one hi).2 (.inr ⟨hr,e⟩),rfl,h0,fun _ h=>h,rfl⟩
theorem SOk.up (h:SOk V R) {a:ActD} {V':List VoterD} {R':List RoundD} (hd:Did V R a V' R'):Up R R':=by
  cases hd with
  | none=>exact .refl _
  | late=>exact .refl _
  | begun=>exact fun r hr h0=>⟨r,List.mem_append_left _ hr,rfl,h0,fun _ h=>h,rfl⟩
  | promised w i r hw hi hr hlt hna hbest =>
    have hm:r∈R:=hr▸getD_mem (d:=r00) hi
    exact Up.set h hi (by rw [hr]) (fun h0=>by rw [hr] at h0; rw [h.vask r hm h0] at hna; cases hna)
  | same w i r hw hi hr hlt hna hbest=>exact Up.set h hi (by rw [hr]) (fun h0=>by rw [hr] at h0 ⊢; exact ⟨h0,fun _ h=>h,rfl⟩)
  | asked i r hi hr=>exact Up.set h hi (by rw [hr]) (fun h0=>by rw [hr] at h0 ⊢; exact ⟨h0,fun _ h=>h,rfl⟩)
  | voted w i r hw hi hr hask hle =>
    have hm:r∈R:=hr▸getD_mem (d:=r00) hi
    have hb1:=fun k=>one_bit (h.u8 r hm).2 (k:=k) (h.w8 hw)
    exact Up.set h hi (by rw [hr]) (fun h0=>by rw [hr] at h0 ⊢; exact ⟨bit_nz ((hb1 w).2 (.inr rfl)),fun k hk=>(hb1 k).2 (.inl hk),rfl⟩)
theorem Pax.follow {said:List (List UInt8)} (h:Pax said V R) {r:RoundD} (hr:r∈R) (hm:(V.length:Int)<2*ones r.2.2.2.1):∀ (m:Nat) (x:RoundD),x∈R→x.2.2.2.1≠0→r.1≤x.1→x.1.toNat<m→x.2.2.2.2.2.1=r.2.2.2.2.2.1
  | 0,_,_,_,_,hlt=>by omega
  | m+1,x,hx,h0,hle,hlt=>by
    by_cases e:x.1=r.1
    · rw [one_eq h.one hx hr e]
    have ha:=h.amaj x hx (h.vask x hx h0)
    obtain ⟨k,k1,k2⟩:=maj_meet h.n1.2 (fun k hk=>h.bits x hx k (.inl hk)) (fun k hk=>h.bits r hr k (.inr hk)) ha hm
    have h1:=h.j1 x hx r hr k k1 k2 (by omega)
    have h2:=h.rng r hr
    have h3:=h.rng x hx
    rcases h.j2 x hx with h4|⟨y,y1,y2,y3,y4⟩
    · omega
    · rw [← y4]
      exact h.follow hr hm m y y1 y3 (by omega) (by omega)
theorem Pax.agree {said:List (List UInt8)} (h:Pax said V R) {r x:RoundD} (hr:r∈R) (hx:x∈R) (hm:(V.length:Int)<2*ones r.2.2.2.1) (hm':(V.length:Int)<2*ones x.2.2.2.1):x.2.2.2.2.2.1=r.2.2.2.2.2.1:=by
  rcases Int.le_total r.1 x.1 with hle|hle
  · exact h.follow hr hm _ x hx (maj_nz (by omega) hm') hle (Nat.lt_succ_self _)
  · exact (h.follow hx hm' _ r hr (maj_nz (by omega) hm) hle (Nat.lt_succ_self _)).symm
end
end Go.Proofs.Ytegigiecamjobaa
