/- The plain law of a lane: what is told is a beginning of what was put. -/
import Derived.Test.YtegigiecamjobaaLaneE
namespace Go.Proofs.Ytegigiecamjobaa
open Go.Ex
set_option maxRecDepth 100000
abbrev Str:=List UInt8
def Of (put:List Str) (p:ParcelD):Prop:=0≤p.1∧p.1<(put.length:Int)∧p.2.1=put.getD p.1.toNat []
structure LI (put told:List Str) (s:FromD) (r:ToD) (way:List ParcelD):Prop where
  base:0≤s.1∧s.1≤r.1
  late:s.2.1=put.drop s.1.toNat
  few:s.2.1.length≤16
  all:put.length≤16777215
  nl:∀ t∈put,llong t=false
  way_:∀ p∈way,Of put p
  early:∀ p∈r.2.1,Of put p
  ok:ToOk r.1 r.2.1
  next:r.1≤(put.length:Int)
  told_:told=put.take r.1.toNat
theorem Of.nl {put:List Str} {p:ParcelD} (h:Of put p) (hn:∀ t∈put,llong t=false):llong p.2.1=false:=by
  obtain ⟨h1,h2,h3⟩:=h
  rw [h3]; exact hn _ (getD_mem (by omega))
theorem Of.more {put:List Str} {p:ParcelD} (h:Of put p) (x:Str):Of (put++[x]) p:=by
  obtain ⟨h1,h2,h3⟩:=h
  refine ⟨h1,by rw [List.length_append,List.length_singleton]; omega,h3.trans ?_⟩
  rw [List.getD_eq_getElem?_getD,List.getD_eq_getElem?_getD,List.getElem?_append_left (by omega)]
theorem take_one {put:List Str} {n:Nat} (h:n<put.length):put.take (n+1)=put.take n++[put.getD n []]:=by
  rw [List.take_add_one,List.getElem?_eq_getElem h,List.getD_eq_getElem?_getD,List.getElem?_eq_getElem h]; rfl
theorem LI.drop {put told:List Str} {s:FromD} {r:ToD} {way:List ParcelD} (h:LI put told s r way):s.1+s.2.1.length=put.length:=by
  have h1:=h.base
  have h2:=h.next
  rw [h.late,List.length_drop]; omega
theorem LI.from_ {put told:List Str} {s:FromD} {r:ToD} {way:List ParcelD} (h:LI put told s r way):fromE s=0:=by
  have h1:=h.base
  have h2:=h.next
  have h3:=h.all
  have h4:=h.few
  have h5:s.2.1.any llong=false:=by
    rw [h.late]
    cases e:(put.drop s.1.toNat).any llong with
    | false=>rfl
    | true =>
      obtain ⟨t,ht,hb⟩:=List.any_eq_true.1 e
      rw [h.nl t (List.mem_of_mem_drop ht)] at hb; cases hb
  rw [fromE,if_neg (by rw [inF_iff.2 (by omega)]; simp),if_neg (by omega),if_neg (by rw [h5]; simp)]
theorem popR_told {put:List Str}:∀ {l:List ParcelD} {n:Int},0≤n→(∀ p∈l,Of put p)→n≤(put.length:Int)→(popR l n).1≤(put.length:Int)∧n≤(popR l n).1∧put.take n.toNat++(popR l n).2.2=put.take (popR l n).1.toNat
  | [],n,h0,_,hn=>⟨hn,Int.le_refl _,by simp [popR]⟩
  | p::l,n,h0,hl,hn=>by
    rw [popR]
    by_cases e:p.1=n
    · rw [if_pos e]
      obtain ⟨a1,a2,a3⟩:=hl p List.mem_cons_self
      obtain ⟨b1,b2,b3⟩:=popR_told (l:=l) (n:=n+1) (by omega) (fun q hq=>hl q (List.mem_cons_of_mem _ hq)) (by omega)
      refine ⟨b1,by show n≤(popR l (n+1)).1; omega,?_⟩
      show put.take n.toNat++p.2.1::(popR l (n+1)).2.2=put.take (popR l (n+1)).1.toNat
      rw [← b3,show (n+1).toNat=n.toNat+1 by omega,take_one (by omega),a3,e,List.append_assoc]; rfl
    · rw [if_neg e]
      exact ⟨hn,Int.le_refl _,by simp⟩
theorem ToOk.popT {put:List Str} {r:Int} {l:List ParcelD} (h:ToOk r l) (hr:r+1≤(put.length:Int)) (hp:put.length≤16777215) (hl:∀ p∈l,Of put p):ToOk (popR l (r+1)).1 (popR l (r+1)).2.1:=by
  obtain ⟨a1,a2,a3,a4⟩:=popR_ok (l:=l) (n:=r+1) (by rw [show r+1 - 1=r by omega]; exact h.up)
  have h1:=h.rg
  have h2:=h.len
  obtain ⟨b1,b2,-⟩:=popR_told (put:=put) (l:=l) (n:=r+1) (by omega) hl hr
  refine ⟨by omega,by omega,a1,fun p hp=>?_⟩
  have:=h.b p (a4 p hp)
  exact ⟨by omega,this.2⟩
theorem LI.take {put told:List Str} {s:FromD} {r:ToD} {way:List ParcelD} (h:LI put told s r way) {p:ParcelD} (hp:Of put p) :
    LI put (told++(ltake r p).2.1) s (ltake r p).1 way∧(ltake r p).2.2.1=0∧r.1≤(ltake r p).1.1∧(p.1≤r.1→p.1<(ltake r p).1.1):=by
  obtain ⟨n,l,⟨⟩⟩:=r
  have hok:ToOk n l:=h.ok
  have hrg:=hok.rg
  have hn:n≤(put.length:Int):=h.next
  have ht:told=put.take n.toNat:=h.told_
  have hb:0≤s.1∧s.1≤n:=h.base
  have he:∀ p∈l,Of put p:=h.early
  have hall:=h.all
  obtain ⟨p1,p2,p3⟩:=id hp
  have hnl:=hp.nl h.nl
  rw [ltake_in hok (by omega) hnl]
  by_cases c1:p.1<n∨n+16≤p.1∨knownF p.1 l=true
  · rw [if_pos c1]
    refine ⟨by rw [List.append_nil]; exact h,rfl,Int.le_refl _,fun h9=>?_⟩
    show p.1<n
    rcases c1 with c1|c1|c1
    · exact c1
    · omega
    · obtain ⟨q,hq,e⟩:=(known_iff (n:=p.1) hok.up).1 c1
      have:=rise_mem hok.up hq; omega
  rw [if_neg c1]
  have c1:¬ p.1<n∧¬ n+16≤p.1∧knownF p.1 l=false:=⟨fun h=>c1 (.inl h),fun h=>c1 (.inr (.inl h)),by
    cases e:knownF p.1 l with
    | false=>rfl
    | true=>exact absurd (.inr (.inr e)) c1⟩
  by_cases c2:n<p.1
  · rw [if_pos c2]
    refine ⟨⟨hb,h.late,h.few,hall,h.nl,h.way_,fun q hq=>?_,hok.ins c2 (by omega) hnl c1.2.2,hn,by rw [List.append_nil]; exact ht⟩,rfl,Int.le_refl _,fun h9=>absurd h9 (by omega)⟩
    rcases insF_mem.1 hq with rfl|hq
    · exact hp
    · exact he q hq
  · rw [if_neg c2]
    have e:p.1=n:=by omega
    obtain ⟨b1,b2,b3⟩:=popR_told (put:=put) (l:=l) (n:=n+1) (by omega) he (by omega)
    obtain ⟨-,-,-,a4⟩:=popR_ok (l:=l) (n:=n+1) (by rw [show n+1 - 1=n by omega]; exact hok.up)
    refine ⟨⟨⟨hb.1,by show s.1≤(popR l (n+1)).1; omega⟩,h.late,h.few,hall,h.nl,h.way_,fun q hq=>he q (a4 q hq),hok.popT (by omega) hall he,b1,?_⟩,rfl,by show n≤(popR l (n+1)).1; omega,fun _=>by show p.1<(popR l (n+1)).1; omega⟩
    show told++p.2.1::(popR l (n+1)).2.2=put.take (popR l (n+1)).1.toNat
    rw [← b3,ht,show (n+1).toNat=n.toNat+1 by omega,take_one (by omega),p3,e,List.append_assoc]; rfl
theorem LI.put_ {put told:List Str} {s:FromD} {r:ToD} {way:List ParcelD} (h:LI put told s r way) {x:Str} (hx:(lput s x).2.1=0):LI (put++[x]) told (lput s x).1 r way:=by
  have hf:=h.from_
  have hd:=h.drop
  have hb:=h.base
  have hn:=h.next
  obtain ⟨b,l,⟨⟩⟩:=s
  rw [lput,if_neg (by rw [hf]; simp)] at hx ⊢
  split at hx
  · cases hx
  split at hx
  · cases hx
  rename_i c1 c2
  rw [if_neg c1,if_neg c2]
  have hl:l=put.drop b.toNat:=h.late
  have hd:b+(l.length:Int)=put.length:=hd
  have hb:0≤b∧b≤r.1:=hb
  have hfew:l.length≤16:=h.few
  have c2:¬ ((l.length:Int)=16∨16777215≤b+(l.length:Int)):=c2
  refine ⟨hb,?_,?_,?_,fun t ht=>?_,fun p hp=>(h.way_ p hp).more x,fun p hp=>(h.early p hp).more x,h.ok,?_,?_⟩
  · show l++[x]=(put++[x]).drop b.toNat
    rw [hl,List.drop_append_of_le_length (by omega)]
  · show (l++[x]).length≤16
    rw [List.length_append,List.length_singleton]; omega
  · rw [List.length_append,List.length_singleton]; omega
  · rcases List.mem_append.1 ht with ht|ht
    · exact h.nl t ht
    · rw [List.mem_singleton] at ht; subst ht; simpa using c1
  · rw [List.length_append,List.length_singleton]; omega
  · rw [h.told_,List.take_append_of_le_length (by omega)]
theorem sendsL_of {b most:Int} {l:List Str} {put:List Str} (hl:l=put.drop b.toNat) (hb:0≤b) (hbl:b+(l.length:Int)=put.length):∀ {i:Nat},i≤l.length→∀ p∈sendsL b most l i,Of put p
  | 0,_,p,hp=>by cases hp
  | i+1,hi,p,hp=>by
    rw [sendsL] at hp
    rcases List.mem_append.1 hp with hp|hp
    · exact sendsL_of hl hb hbl (by omega) p hp
    · split at hp
      · rw [List.mem_singleton] at hp; subst hp
        refine ⟨by show 0≤b+(i:Int); omega,by show b+(i:Int)<put.length; omega,?_⟩
        show l.getD i []=put.getD (b+(i:Int)).toNat []
        rw [hl,List.getD_eq_getElem?_getD,List.getElem?_drop,List.getD_eq_getElem?_getD]
        congr 2; omega
      · cases hp
theorem LI.sends {put told:List Str} {s:FromD} {r:ToD} {way:List ParcelD} (h:LI put told s r way) (m:Int):(lsends s m).2.1=0∧LI put told s r (way++(lsends s m).1):=by
  have hf:=h.from_
  rw [lsends,if_neg (by rw [hf]; simp)]
  refine ⟨rfl,h.base,h.late,h.few,h.all,h.nl,fun p hp=>?_,h.early,h.ok,h.next,h.told_⟩
  rcases List.mem_append.1 hp with hp|hp
  · exact h.way_ p hp
  · exact sendsL_of h.late h.base.1 h.drop (Nat.le_refl _) p hp
theorem LI.heard {put told:List Str} {s:FromD} {r:ToD} {way:List ParcelD} (h:LI put told s r way):(lheard s r.1).2.1=0∧LI put told (lheard s r.1).1 r way∧(lheard s r.1).1.2.1=put.drop r.1.toNat:=by
  have hf:=h.from_
  have hd:=h.drop
  have hb:=h.base
  have hn:=h.next
  obtain ⟨b,l,⟨⟩⟩:=s
  have hl:l=put.drop b.toNat:=h.late
  have hd:b+(l.length:Int)=put.length:=hd
  have hb:0≤b∧b≤r.1:=hb
  have hfew:l.length≤16:=h.few
  rw [lheard,if_neg (by rw [hf]; simp),if_neg (by show ¬ (b+(l.length:Int)<r.1); omega)]
  have ha:ahd b r.1=r.1 - b:=by rw [ahd,if_neg (by omega)]
  have he:l.drop (ahd b r.1).toNat=put.drop r.1.toNat:=by
    rw [ha,hl,List.drop_drop]; congr 1; omega
  refine ⟨rfl,⟨⟨by show 0≤b+ahd b r.1; omega,by show b+ahd b r.1≤r.1; omega⟩,?_,?_,h.all,h.nl,h.way_,h.early,h.ok,h.next,h.told_⟩,he⟩
  · show l.drop (ahd b r.1).toNat=put.drop (b+ahd b r.1).toNat
    rw [he,ha]; congr 1; omega
  · show (l.drop (ahd b r.1).toNat).length≤16
    rw [List.length_drop]; omega
theorem LI.start:LI [] [] f00 t00 [] :=
  ⟨⟨Int.le_refl _,Int.le_refl _⟩,rfl,by decide,by decide,fun _ h=>(by cases h),fun _ h=>(by cases h),fun _ h=>(by cases h),toE_iff.1 (show toE (0,[],())=0 by decide +kernel),Int.le_refl _,rfl⟩
abbrev LActD:=Int×Int×Str×Unit
abbrev LSt:=List Str×List Str×FromD×ToD×List ParcelD
def lstep (st:LSt) (a:LActD):LSt :=
  if a.1=3 then (if st.2.2.2.2.length=0 then st else
    (st.1,st.2.1++(ltake st.2.2.2.1 (st.2.2.2.2.getD (rest a.2.1 st.2.2.2.2.length).toNat p00)).2.1,st.2.2.1,(ltake st.2.2.2.1 (st.2.2.2.2.getD (rest a.2.1 st.2.2.2.2.length).toNat p00)).1,st.2.2.2.2))
  else if a.1=4 then (st.1,st.2.1,st.2.2.1,st.2.2.2.1,st.2.2.2.2++(lsends st.2.2.1 a.2.1).1)
  else if a.1=5 then (st.1,st.2.1,(lheard st.2.2.1 st.2.2.2.1.1).1,st.2.2.2.1,st.2.2.2.2)
  else if (lput st.2.2.1 a.2.2.1).2.1=0 then (st.1++[a.2.2.1],st.2.1,(lput st.2.2.1 a.2.2.1).1,st.2.2.2.1,st.2.2.2.2) else st
def LIs (st:LSt):Prop:=LI st.1 st.2.1 st.2.2.1 st.2.2.2.1 st.2.2.2.2
theorem LIs.step {st:LSt} (h:LIs st) (a:LActD):LIs (lstep st a):=by
  obtain ⟨put,told,s,r,way⟩:=st
  have h:LI put told s r way:=h
  unfold lstep
  split
  · split
    · exact h
    · rename_i c
      have hr:=rest_in (a:=a.2.1) (show 0<(way.length:Int) by have c:¬ way.length=0:=c; omega)
      exact (h.take (h.way_ (way.getD (rest a.2.1 way.length).toNat p00) (getD_mem (d:=p00) (by omega)))).1
  · split
    · exact (h.sends _).2
    · split
      · exact h.heard.2.1
      · split
        · rename_i c; exact h.put_ c
        · exact h
def l0S:LSt:=([],[],f00,t00,[])
def lgo (acts:List LActD):Nat→LSt
  | 0=>l0S
  | k+1=>lstep (lgo acts k) (acts.getD k (0,0,[],()))
theorem lgo_ok (acts:List LActD):∀ k,LIs (lgo acts k)
  | 0=>LI.start
  | k+1=>(lgo_ok acts k).step _
theorem way_len {st:LSt} (h:LIs st) (a:LActD):(lstep st a).2.2.2.2.length≤st.2.2.2.2.length+16:=by
  obtain ⟨put,told,s,r,way⟩:=st
  have h:LI put told s r way:=h
  have hf:=h.few
  unfold lstep
  split
  · split
    · show way.length≤way.length+16; omega
    · show way.length≤way.length+16; omega
  · split
    · show (way++(lsends s a.2.1).1).length≤way.length+16
      rw [List.length_append]
      have:(lsends s a.2.1).1.length≤s.2.1.length:=by
        rw [lsends]; split
        · exact Nat.zero_le _
        · exact sendsL_len
      omega
    · split
      · show way.length≤way.length+16; omega
      · split
        · show way.length≤way.length+16; omega
        · show way.length≤way.length+16; omega
theorem lgo_way (acts:List LActD):∀ k,(lgo acts k).2.2.2.2.length≤16*k
  | 0=>Nat.le_refl _
  | k+1=>by have:=way_len (lgo_ok acts k) (acts.getD k (0,0,[],())); have:=lgo_way acts k; rw [lgo]; omega
theorem LI.told_len {put told:List Str} {s:FromD} {r:ToD} {way:List ParcelD} (h:LI put told s r way):(told.length:Int)=r.1∧told=put.take told.length∧told.length≤put.length:=by
  have h1:=h.base
  have h2:=h.next
  have e:told.length=r.1.toNat:=by rw [h.told_,List.length_take]; omega
  refine ⟨by omega,?_,by omega⟩
  rw [e]; exact h.told_
end Go.Proofs.Ytegigiecamjobaa
