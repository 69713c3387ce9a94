/- A synod's steps (Lamport): what is chosen stays, and nothing else is chosen: the plain law. No condition but those named. -/
import Derived.Test.YtekbamiaenbhjaaSynP
namespace Go.Proofs.Ytekbamiaenbhjaa
open Go.Ex
set_option maxRecDepth 100000
theorem N0 {R:List j9} (ho:R.Pairwise (fun a b=>a.1≠b.1)) {i:Nat} (hi:i<R.length) {r':j9} {x:j9}:x∈R.set i r'↔x=r'∨(x∈R∧x.1≠(R.getD i G0).1):=by
  have hg:R.getD i G0=R[i]:=by rw [List.getD_eq_getElem?_getD,List.getElem?_eq_getElem hi]; rfl
  rw [hg]
  constructor
  · intro hx
    obtain ⟨j,hj,e⟩:=List.getElem_of_mem hx
    rw [List.length_set] at hj
    rw [List.getElem_set] at e
    split at e
    · exact .inl e.symm
    · rename_i hne
      refine .inr ⟨by rw [← e]; exact List.getElem_mem _,?_⟩
      rw [← e]
      rcases Nat.lt_or_ge i j with hlt|hge
      · exact fun h=>List.pairwise_iff_getElem.1 ho i j hi hj hlt h.symm
      · exact List.pairwise_iff_getElem.1 ho j i hj hi (by omega)
  · rintro (rfl|⟨h1,h2⟩)
    · exact List.mem_iff_getElem.2 ⟨i,by rw [List.length_set]; exact hi,by rw [List.getElem_set_self]⟩
    · obtain ⟨j,hj,e⟩:=List.getElem_of_mem h1
      refine List.mem_iff_getElem.2 ⟨j,by rw [List.length_set]; exact hj,?_⟩
      rw [List.getElem_set_ne,e]
      rintro rfl
      exact h2 (by rw [← e])
theorem c1n {R:List j9} (ho:R.Pairwise (fun a b=>a.1≠b.1)) {i:Nat} (hi:i<R.length) {r':j9} (e:r'.1=(R.getD i G0).1):(R.set i r').Pairwise (fun a b=>a.1≠b.1):=by
  have hg:R.getD i G0=R[i]:=by rw [List.getD_eq_getElem?_getD,List.getElem?_eq_getElem hi]; rfl
  rw [hg] at e
  rw [List.pairwise_iff_getElem] at ho ⊢
  intro j k hj hk hjk
  rw [List.length_set] at hj hk
  have:=ho j k hj hk hjk
  rw [List.getElem_set,List.getElem_set]
  split
  · rename_i h1
    subst h1
    rw [if_neg (by omega),e]; exact this
  · split
    · rename_i h1
      subst h1
      rw [e]; exact this
    · exact this
inductive Did (V:List r8) (R:List j9) (a:a5x):List r8→List j9→Prop
  | none:Did V R a V R
  | begun:a.1=1→(∀ r∈R,r.1≠a.2.1)→R.length<30→(1≤a.2.1∧a.2.1≤16777215)→Did V R a V (R++[(a.2.1,0,0,0,false,a.2.2.2.1,())])
  | late (w i:Nat) (r:j9):w<V.length→i<R.length→R.getD i G0=r→(V.getD w W4).1<r.1→Did V R a (V.set w (r.1,(V.getD w W4).2)) R
  | b9t (w i:Nat) (r:j9):w<V.length→i<R.length→R.getD i G0=r→(V.getD w W4).1<r.1→r.2.2.2.2.1=false→r.2.1<(V.getD w W4).2.1 →
      Did V R a (V.set w (r.1,(V.getD w W4).2)) (R.set i (r.1,(V.getD w W4).2.1,I5 .u8 r.2.2.1 (a2R (w:Int)),r.2.2.2.1,r.2.2.2.2.1,(V.getD w W4).2.2.1,()))
  | same (w i:Nat) (r:j9):w<V.length→i<R.length→R.getD i G0=r→(V.getD w W4).1<r.1→r.2.2.2.2.1=false→(V.getD w W4).2.1≤r.2.1 →
      Did V R a (V.set w (r.1,(V.getD w W4).2)) (R.set i (r.1,r.2.1,I5 .u8 r.2.2.1 (a2R (w:Int)),r.2.2.2))
  | asked (i:Nat) (r:j9):i<R.length→R.getD i G0=r→Did V R a V (R.set i (r.1,r.2.1,r.2.2.1,r.2.2.2.1,r.2.2.2.2.1 || maj r.2.2.1 V.length,r.2.2.2.2.2))
  | c3S (w i:Nat) (r:j9):w<V.length→i<R.length→R.getD i G0=r→r.2.2.2.2.1=true→(V.getD w W4).1≤r.1→Did V R a (V.set w (r.1,r.1,r.2.2.2.2.2.1,())) (R.set i (r.1,r.2.1,r.2.2.1,I5 .u8 r.2.2.2.1 (a2R (w:Int)),r.2.2.2.2))
section
variable {V:List r8} {R:List j9} {v:r8} {k:Nat}
theorem SOk.w8 (h:SOk V R) {w:Nat} (hw:w<V.length):w<8:=by have:=h.n1; omega
theorem b9y {x:Int} (hx:u7 .u8 x) {w k:Nat} (hw:w<8):bit (I5 .u8 x (a2R (w:Int))) k=true↔bit x k=true∨k=w:=by
  rw [c2Z hx (b4y _),b9m hw,decide_eq_true_eq]
theorem VOk.K5 (h:VOk R v k) {i:Nat} (hi:i<R.length) (ho:R.Pairwise (fun a b=>a.1≠b.1)) {r':j9} (e1:r'.1=(R.getD i G0).1) (hP:bit r'.2.2.1 k=true∨bit r'.2.2.2.1 k=true→r'.1≤v.1) (hV:bit r'.2.2.2.1 k=true→r'.1≤v.2.1)
    (hk:bit (R.getD i G0).2.2.2.1 k=true→bit r'.2.2.2.1 k=true∧r'.2.2.2.2.2.1=(R.getD i G0).2.2.2.2.2.1):VOk (R.set i r') v k:=by
  have hm:=M8 (d:=G0) hi
  have up:∀ r∈R,r.1=(R.getD i G0).1→r=R.getD i G0:=fun r hr e=>b05 ho hr hm e
  refine ⟨h.pos,fun h0=>?_,fun x hx hb=>?_,fun x hx hb=>?_,fun h0=>?_,h.none⟩
  · obtain ⟨r,h1,h2⟩:=h.prom h0
    by_cases e:r.1=(R.getD i G0).1
    · exact ⟨r',(N0 ho hi).2 (.inl rfl),by rw [e1,← e,h2]⟩
    · exact ⟨r,(N0 ho hi).2 (.inr ⟨h1,e⟩),h2⟩
  · rcases (N0 ho hi).1 hx with rfl|⟨h1,_⟩
    · exact hP hb
    · exact h.le x h1 hb
  · rcases (N0 ho hi).1 hx with rfl|⟨h1,_⟩
    · exact hV hb
    · exact h.vle x h1 hb
  · obtain ⟨r,h1,h2,h3,h4⟩:=h.last h0
    by_cases e:r.1=(R.getD i G0).1
    · have e2:=up r h1 e
      rw [e2] at h3 h4 h2
      obtain ⟨k1,k2⟩:=hk h3
      exact ⟨r',(N0 ho hi).2 (.inl rfl),by rw [e1,h2],k1,by rw [k2,h4]⟩
    · exact ⟨r,(N0 ho hi).2 (.inr ⟨h1,e⟩),h2,h3,h4⟩
theorem VOk.more (h:VOk R v k) {r':j9} (h1:bit r'.2.2.1 k=false) (h2:bit r'.2.2.2.1 k=false):VOk (R++[r']) v k:=by
  have mem:∀ {x:j9},x∈R++[r']→x∈R∨x=r':=fun hx=>by
    rcases List.mem_append.1 hx with hx|hx
    · exact .inl hx
    · exact .inr (by simpa using hx)
  refine ⟨h.pos,fun h0=>?_,fun x hx hb=>?_,fun x hx hb=>?_,fun h0=>?_,h.none⟩
  · obtain ⟨r,k1,k2⟩:=h.prom h0
    exact ⟨r,List.mem_append_left _ k1,k2⟩
  · rcases mem hx with hx|rfl
    · exact h.le x hx hb
    · rw [h1,h2] at hb; simp at hb
  · rcases mem hx with hx|rfl
    · exact h.vle x hx hb
    · rw [h2] at hb; cases hb
  · obtain ⟨r,k1,k2⟩:=h.last h0
    exact ⟨r,List.mem_append_left _ k1,k2⟩
theorem SOk.K5 (h:SOk V R) {V':List r8} (hl:V'.length=V.length) {i:Nat} (hi:i<R.length) {r':j9} (e1:r'.1=(R.getD i G0).1) (hu:u7 .u8 r'.2.2.1∧u7 .u8 r'.2.2.2.1) (hb:0≤r'.2.1∧r'.2.1<r'.1)
    (hbits:∀ k,bit r'.2.2.1 k=true∨bit r'.2.2.2.1 k=true→k<V.length) (hva:r'.2.2.2.1≠0→r'.2.2.2.2.1=true) (ham:r'.2.2.2.2.1=true→(V.length:Int)<2*R5 r'.2.2.1)
    (hv:∀ k,k<V.length→VOk (R.set i r') (V'.getD k W4) k):SOk V' (R.set i r'):=by
  have mem:=fun {x:j9} (hx:x∈R.set i r')=>(N0 h.one hi).1 hx
  have hm:=h.B5 _ (M8 (d:=G0) hi)
  refine ⟨by rw [hl]; exact h.n1,by rw [List.length_set]; exact h.r30,fun x hx=>?_,fun x hx=>?_,c1n h.one hi e1,fun x hx=>?_,fun x hx=>?_,fun x hx=>?_,fun k hk=>hv k (by omega)⟩
  · rcases mem hx with rfl|hx; exact hu; exact h.u8 x hx.1
  · rcases mem hx with rfl|hx
    · exact ⟨by rw [e1]; exact hm.1,hb⟩
    · exact h.B5 x hx.1
  · rw [hl]; rcases mem hx with rfl|hx; exact hbits; exact h.bits x hx.1
  · rcases mem hx with rfl|hx; exact hva; exact h.b9d x hx.1
  · rw [hl]; rcases mem hx with rfl|hx; exact ham; exact h.c3u x hx.1
/-! ### Lamport's invariant -/
structure Pax (said:List (List UInt8)) (V:List r8) (R:List j9):Prop extends SOk V R where
  j1:∀ x∈R,∀ y∈R,∀ k,bit x.2.2.1 k=true→bit y.2.2.2.1 k=true→y.1<x.1→y.1≤x.2.1
  j2:∀ x∈R,x.2.1=0∨∃ y∈R,y.1=x.2.1∧y.2.2.2.1≠0∧y.2.2.2.2.2.1=x.2.2.2.2.2.1
  j3:∀ x∈R,x.2.2.2.2.2.1∈said
def Up (R R':List j9):Prop:=∀ r∈R,r.2.2.2.1≠0→∃ r'∈R',r'.1=r.1∧r'.2.2.2.1≠0∧(∀ k,bit r.2.2.2.1 k=true→bit r'.2.2.2.1 k=true)∧r'.2.2.2.2.2.1=r.2.2.2.2.2.1
theorem Up.refl (R:List j9):Up R R:=fun r hr h0=>⟨r,hr,rfl,h0,fun _ h=>h,rfl⟩
theorem Up.trans {R R' R'':List j9} (h:Up R R') (h':Up R' R''):Up R R'':=fun r hr h0=>by
  obtain ⟨r',h1,h2,h3,h4,h5⟩:=h r hr h0
  obtain ⟨r'',k1,k2,k3,k4,k5⟩:=h' r' h1 h3
  exact ⟨r'',k1,by rw [k2,h2],k3,fun k hk=>k4 k (h4 k hk),by rw [k5,h5]⟩
theorem Up.set (h:SOk V R) {i:Nat} (hi:i<R.length) {r':j9} (e1:r'.1=(R.getD i G0).1) (hk:(R.getD i G0).2.2.2.1≠0→r'.2.2.2.1≠0∧(∀ k,bit (R.getD i G0).2.2.2.1 k=true→bit r'.2.2.2.1 k=true)∧r'.2.2.2.2.2.1=(R.getD i G0).2.2.2.2.2.1):Up R (R.set i r'):=by
  intro r hr h0
  by_cases e:r.1=(R.getD i G0).1
  · have e2:=b05 h.one hr (M8 (d:=G0) hi) e
    rw [← e2] at hk e1
    obtain ⟨k1,k2,k3⟩:=hk h0
    exact ⟨r',(N0 h.one hi).2 (.inl rfl),e1,k1,k2,k3⟩
  · exact ⟨r,(N0 h.one hi).2 (.inr ⟨hr,e⟩),rfl,h0,fun _ h=>h,rfl⟩
theorem SOk.up (h:SOk V R) {a:a5x} {V':List r8} {R':List j9} (hd:Did V R a V' R'):Up R R':=by
  cases hd with
  | none=>exact .refl _
  | late=>exact .refl _
  | begun=>exact fun r hr h0=>⟨r,List.mem_append_left _ hr,rfl,h0,fun _ h=>h,rfl⟩
  | b9t w i r hw hi hr hlt hna hbest =>
    have hm:r∈R:=hr▸M8 (d:=G0) hi
    exact Up.set h hi (by rw [hr]) (fun h0=>by rw [hr] at h0; rw [h.b9d r hm h0] at hna; cases hna)
  | same w i r hw hi hr hlt hna hbest=>exact Up.set h hi (by rw [hr]) (fun h0=>by rw [hr] at h0 ⊢; exact ⟨h0,fun _ h=>h,rfl⟩)
  | asked i r hi hr=>exact Up.set h hi (by rw [hr]) (fun h0=>by rw [hr] at h0 ⊢; exact ⟨h0,fun _ h=>h,rfl⟩)
  | c3S w i r hw hi hr hask hle =>
    have hm:r∈R:=hr▸M8 (d:=G0) hi
    have hb1:=fun k=>b9y (h.u8 r hm).2 (k:=k) (h.w8 hw)
    exact Up.set h hi (by rw [hr]) (fun h0=>by rw [hr] at h0 ⊢; exact ⟨c3r ((hb1 w).2 (.inr rfl)),fun k hk=>(hb1 k).2 (.inl hk),rfl⟩)
theorem Pax.follow {said:List (List UInt8)} (h:Pax said V R) {r:j9} (hr:r∈R) (hm:(V.length:Int)<2*R5 r.2.2.2.1):∀ (m:Nat) (x:j9),x∈R→x.2.2.2.1≠0→r.1≤x.1→x.1.toNat<m→x.2.2.2.2.2.1=r.2.2.2.2.2.1
  | 0,_,_,_,_,hlt=>by omega
  | m+1,x,hx,h0,hle,hlt=>by
    by_cases e:x.1=r.1
    · rw [b05 h.one hx hr e]
    have ha:=h.c3u x hx (h.b9d x hx h0)
    obtain ⟨k,k1,k2⟩:=b9D h.n1.2 (fun k hk=>h.bits x hx k (.inl hk)) (fun k hk=>h.bits r hr k (.inr hk)) ha hm
    have h1:=h.j1 x hx r hr k k1 k2 (by omega)
    have h2:=h.B5 r hr
    have h3:=h.B5 x hx
    rcases h.j2 x hx with h4|⟨y,y1,y2,y3,y4⟩
    · omega
    · rw [← y4]
      exact h.follow hr hm m y y1 y3 (by omega) (by omega)
theorem Pax.agree {said:List (List UInt8)} (h:Pax said V R) {r x:j9} (hr:r∈R) (hx:x∈R) (hm:(V.length:Int)<2*R5 r.2.2.2.1) (hm':(V.length:Int)<2*R5 x.2.2.2.1):x.2.2.2.2.2.1=r.2.2.2.2.2.1:=by
  rcases Int.le_total r.1 x.1 with hle|hle
  · exact h.follow hr hm _ x hx (b8d (by omega) hm') hle (Nat.lt_succ_self _)
  · exact (h.follow hx hm' _ r hr (b8d (by omega) hm) hle (Nat.lt_succ_self _)).symm
end
end Go.Proofs.Ytekbamiaenbhjaa
