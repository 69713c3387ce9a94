/- SynodEnds: the walk. No condition. -/
import Derived.Test.YtegigiecamjobaaSynH
namespace Go.Proofs.Ytegigiecamjobaa
open Go.Ex Go.Sort
set_option maxRecDepth 100000
def topG (t:Int) (r:RoundD):Int:=if t<r.1 then r.1 else t
theorem topG_ge:∀ (R:List RoundD) (t:Int),t≤R.foldl topG t∧∀ r∈R,r.1≤R.foldl topG t
  | [],t=>⟨Int.le_refl _,by simp⟩
  | r::R,t=>by
    obtain ⟨h1,h2⟩:=topG_ge R (topG t r)
    rw [List.foldl_cons]
    have h3:t≤topG t r∧r.1≤topG t r:=by unfold topG; split<;>omega
    refine ⟨by omega,fun x hx=>?_⟩
    rcases List.mem_cons.1 hx with rfl|hx
    · omega
    · exact h2 x hx
theorem topG_le {c:Int}:∀ (R:List RoundD) (t:Int),t≤c→(∀ r∈R,r.1≤c)→R.foldl topG t≤c
  | [],_,h,_=>h
  | r::R,t,h,hr=>by
    rw [List.foldl_cons]
    refine topG_le R _ ?_ (fun x hx=>hr x (by simp [hx]))
    have:=hr r (by simp)
    unfold topG; split<;>omega
theorem cSynodEnds_valid:cSynodEnds.Valid Try.prog 16:=by
  refine Ctr.valid_of ESynodEnds_ok rfl rfl Try.func16 (c:=bodyOf Try.prog 16) rfl rfl FSynodEnds_ok rfl ?_
  rintro ⟨(n:Int),(l:List ActD),(x:List UInt8),⟨⟩⟩ - -
  refine exec_sound (n:=1000) ESynodEnds_ok FSynodEnds_ok ?_
  refine holds_of_eq (ESynodEnds_t n l x) ?_
  have hf:=few_in n
  have h2:=votF_ok (n:=2) (by decide) (by decide) (List.flatten (List.set (List.set [[],[]] (Int.toNat (0:Int)) (oneF 1 2 [120])) (Int.toNat (1:Int)) (oneF 2 2 [121])))
  have h:=few_votes n l
  generalize votF (few n) l=st at *
  obtain ⟨N,hN⟩:=Int.eq_ofNat_of_zero_le (show 0≤few n by omega)
  rw [hN] at h hf ⊢
  rw [show Int.toNat ((N:Nat):Int)=N from Int.toNat_natCast _] at h
  obtain ⟨⟨V,R,⟨⟩⟩,said⟩:=st
  have hrg:∀ r∈R,(1≤r.1∧r.1≤16777215)∧0≤r.2.1∧r.2.1<r.1:=h.pax.rng
  have hr30:R.length≤30:=h.pax.r30
  simp only [holds_cond,Tree.holds,true_and,true_implies,decide_eq_true_eq,decide_eq_false_iff_not,Bool.not_eq_true',Bool.not_eq_false',Int.toNat_natCast,inK_i64,List.length_set,List.length_cons,List.length_nil]
  refine ⟨by decide,fun _=>⟨by decide,fun _=>⟨by decide +kernel,fun _=>⟨by decide,fun _=>⟨fun _=>h2.alike,fun _=>⟨hf,fun _=>?_⟩⟩⟩⟩⟩⟩
  refine Reach.loopI ESynodEnds_ok FSynodEnds_ok (fun i:Nat=>ESynodEnds_s13 (N:Int) x ((R.take i).foldl topG 0) (R.length:Int) (i:Int) V R) (fun i=>i≤R.length) (fun i=>R.length - i) 1000 (fun _=>⟨uniq_of rfl,uniq_of rfl⟩) ?_ 0 (Nat.zero_le _)
  rintro i (k1:i≤R.length) - ih
  refine holds_of_eq (ESynodEnds_l13 ..) ?_
  have next:=fun h=>ih (i+1) h (by omega)
  simp only [holds_cond,Tree.holds,true_and,true_implies,decide_eq_true_eq,decide_eq_false_iff_not,Bool.not_eq_true',Bool.not_eq_false',Int.toNat_natCast,inK_i64,List.length_set,List.length_cons,List.length_nil]
  refine ⟨fun c=>⟨by omega,fun _=>⟨by omega,fun _=>?_⟩⟩,fun c=>?_⟩
  · have hi:i<R.length:=by omega
    have tk:R.take (i+1)=R.take i++[R.getD i r00]:=by
      rw [List.take_add_one,List.getElem?_eq_getElem hi,List.getD_eq_getElem?_getD,List.getElem?_eq_getElem hi]; rfl
    have:=next hi
    rw [tk,List.foldl_append] at this
    exact this
  clear next ih
  obtain rfl:i=R.length:=by omega
  rw [List.take_length]
  obtain ⟨t0,t1⟩:=topG_ge R 0
  have t2:=topG_le (c:=16777215) R 0 (by decide) (fun r hr=>(hrg r hr).1.2)
  generalize R.foldl topG 0=top at *
  refine ⟨fun _=>rfl,fun d1=>⟨fun _=>rfl,fun d2=>⟨fun _=>rfl,fun d3=>?_⟩⟩⟩
  have htd:Int.tdiv (N:Int) 2+1=((N / 2+1:Nat):Int):=by rw [Int.tdiv_eq_ediv_of_nonneg (by omega)]; omega
  rw [htd]
  have hal:=h.alike
  have hal:∀ a∈chosenL (V,R,()),∀ b∈chosenL (V,R,()),a=b:=hal
  have hch:chosenR (V,R,())=((chosenL (V,R,())).take 1,0,()):=h.chosen
  rw [hch]
  obtain ⟨e1,said',e2,r,e3,e4⟩:=ends_run h (b:=top+1) (m:=N / 2+1) (t:=x) (by omega) (fun y hy=>by have:=t1 y hy; omega) (by omega) (by omega) (by show R.length≠30; omega) (by omega)
  have hup:=okRun_up h e1
  have hlen:(oneF (top+1) ((N / 2+1:Nat):Int) x).length≤100:=by
    rw [oneF,Int.toNat_natCast,List.length_append,List.length_append,List.length_append,oneTo_len,oneTo_len]
    simp only [List.length_cons,List.length_nil]; omega
  generalize oneF (top+1) ((N / 2+1:Nat):Int) x=acts at *
  generalize hL:chosenL (V,R,())=L at *
  refine ⟨fun _=>hal,fun _=>⟨by omega,fun _=>⟨by decide,fun _=>⟨by omega,fun _=>⟨⟨by omega,by omega⟩,fun _=>?_⟩⟩⟩⟩⟩
  refine Reach.loopI ESynodEnds_ok FSynodEnds_ok (fun s:Nat×SynodD=>ESynodEnds_s21 (acts.length:Int) (s.1:Int) s.2.1 s.2.2.1 (L.take 1) acts) (fun s=>s.1≤acts.length∧s.2=(acts.take s.1).foldl stepS (V,R,())) (fun s=>acts.length - s.1) 1000 (fun _=>⟨uniq_of rfl,uniq_of rfl⟩) ?_ (0,(V,R,())) ⟨Nat.zero_le _,rfl⟩
  rintro ⟨i,V',R',⟨⟩⟩ ⟨(k1:i≤acts.length),(k2:(V',R',())=(acts.take i).foldl stepS (V,R,()))⟩ - ih
  refine holds_of_eq (ESynodEnds_l21 ..) ?_
  simp only [holds_cond,Tree.holds,true_and,true_implies,decide_eq_true_eq,decide_eq_false_iff_not,Bool.not_eq_true',Bool.not_eq_false',Int.toNat_natCast,inK_i64,List.length_set,List.length_cons,List.length_nil]
  refine ⟨fun c=>⟨by omega,fun _=>?_⟩,fun c=>?_⟩
  · have hi:i<acts.length:=by omega
    have hz:=okRun_at e1 hi
    rw [← k2] at hz
    have tk:acts.take (i+1)=acts.take i++[acts.getD i (0,0,0,[],())]:=by
      rw [List.take_add_one,List.getElem?_eq_getElem hi,List.getD_eq_getElem?_getD,List.getElem?_eq_getElem hi]; rfl
    have next:=fun s e=>ih (i+1,s) ⟨hi,by show s=(acts.take (i+1)).foldl stepS (V,R,()); rw [tk,List.foldl_append,← k2]; exact e⟩ (by show acts.length - (i+1)<acts.length - i; omega)
    rw [stepR_ok hz]
    have next:=next (stepS (V',R',()) (acts.getD i (0,0,0,[],()))) rfl
    generalize stepS (V',R',()) (acts.getD i (0,0,0,[],()))=s9 at *
    exact ⟨fun d=>absurd rfl d,fun _=>⟨by omega,fun _=>next⟩⟩
  · rw [List.take_of_length_le (by omega)] at k2
    rw [← k2] at e2 e3 hup
    have hal2:∀ a∈chosenL (V',R',()),∀ b∈chosenL (V',R',()),a=b:=e2.alike
    have hch2:chosenR (V',R',())=((chosenL (V',R',())).take 1,0,()):=e2.chosen
    have hsub:∀ y∈L,y∈chosenL (V',R',()):=by
      rw [← hL]
      exact chosen_up (s:=((V,R,()),said)) (t:=((V',R',()),said')) h e2 hup
    have hlen2:V'.length=N:=e2.len
    have hin:r.2.2.2.2.2.1∈chosenL (V',R',()):=List.mem_map.2 ⟨r,List.mem_filter.2 ⟨e3,decide_eq_true (by show ((V'.length:Nat):Int)<_; rw [hlen2]; exact e4)⟩,rfl⟩
    rw [hch2]
    generalize chosenL (V',R',())=M at *
    have hM:(M.take 1).length=1:=by
      cases M with
      | nil=>cases hin
      | cons y M=>rfl
    simp only [holds_cond,Tree.holds,true_and,true_implies,decide_eq_true_eq,decide_eq_false_iff_not,Bool.not_eq_true',Bool.not_eq_false',Int.toNat_natCast,inK_i64,List.length_set,List.length_cons,List.length_nil]
    refine ⟨fun _=>hal2,fun _=>?_⟩
    refine ⟨⟨fun _=>⟨fun _=>rfl,fun c3=>⟨by omega,fun _=>⟨by omega,fun _=>?_⟩⟩⟩,fun c3=>absurd (by omega) c3⟩,fun c3=>absurd trivial c3⟩
    have hLn:L≠[]:=by rintro rfl; exact c3 rfl
    rw [alike_take hsub hal2 hLn]
    exact yesd rfl
end Go.Proofs.Ytegigiecamjobaa
