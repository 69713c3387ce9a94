/- What Most and Cover tell of a right graph (plain). No condition but those named. -/
import Derived.Test.YtegigiecamjobaaCovP
import Derived.Test.YtegigiecamjobaaMatchL
namespace Go.Proofs.Ytegigiecamjobaa
open Go.Ex
set_option maxRecDepth 100000
theorem whereB_mem {v:Bool} {l:List Bool} {k:Nat} {x:Int}:x∈whereB v l k↔∃ a:Nat,a<k∧x=(a:Int)∧l.getD a false=v:=by
  rw [whereB,List.mem_map]
  constructor
  · rintro ⟨a,ha,rfl⟩
    rw [List.mem_filter,List.mem_range] at ha
    exact ⟨a,ha.1,rfl,by simpa using ha.2⟩
  · rintro ⟨a,h1,rfl,h2⟩
    exact ⟨a,by rw [List.mem_filter,List.mem_range]; exact ⟨h1,by simpa using h2⟩,rfl⟩
theorem cover_facts {m n:Int} {l:List PairD} (h:mcheck m n l=0):∃ (M N:Nat) (s:LR),m=(M:Int)∧n=(N:Int)∧M≤40∧N≤40∧inP (M:Int) (N:Int) l∧MInv M N M (mostF (M:Int) (N:Int) l)∧Konig M N (mostF (M:Int) (N:Int) l) s ∧
    coverR m n l=(whereB false s.1 M,whereB true s.2 N,0,())∧mostR m n l=(outP (mostF (M:Int) (N:Int) l).2.1 M,0,()):=by
  have hin:=(mcheck_ok h).1
  obtain ⟨M,rfl⟩:∃ M:Nat,m=(M:Int):=⟨m.toNat,by have:=hin.1.1; omega⟩
  obtain ⟨N,rfl⟩:∃ N:Nat,n=(N:Int):=⟨n.toNat,by have:=hin.2.1.1; omega⟩
  have hM:M≤40:=by have:=hin.1.2; omega
  have hN:N≤40:=by have:=hin.2.1.2; omega
  have hI:MInv M N M (mostF (M:Int) (N:Int) l):=most_inv hM hN (Nat.le_refl M)
  refine ⟨M,N,covLR (mostF (M:Int) (N:Int) l) M N,rfl,rfl,hM,hN,hin,hI,cov_konig hI hM hN,?_,?_⟩
  · rw [coverR,if_neg (fun g=>g h),Int.toNat_natCast,Int.toNat_natCast]
  · rw [mostR,if_neg (fun g=>g h),Int.toNat_natCast]
theorem cover_covers {m n:Int} {l:List PairD} (h:mcheck m n l=0) {q:PairD} (hq:q∈l):q.1∈(coverR m n l).1∨q.2.1∈(coverR m n l).2.1:=by
  obtain ⟨M,N,s,rfl,rfl,hM,hN,hin,hI,hK,e1,e2⟩:=cover_facts h
  rw [e1]
  obtain ⟨q1,q2,⟨⟩⟩:=q
  have hr:=hin.2.2 (q1,q2,()) hq
  obtain ⟨a,rfl⟩:∃ a:Nat,q1=(a:Int):=⟨q1.toNat,by have:0≤q1:=hr.1.1; omega⟩
  obtain ⟨b,rfl⟩:∃ b:Nat,q2=(b:Int):=⟨q2.toNat,by have:0≤q2:=hr.2.1; omega⟩
  have ha:a<M:=by have:(a:Int)<M:=hr.1.2; omega
  have hb:b<N:=by have:(b:Int)<N:=hr.2.2; omega
  have he:=(edge_iff hM hN hin (x:=(a:Int)) (y:=b) (by omega)).2 hq
  cases hs:s.1.getD a false with
  | false=>exact .inl (whereB_mem.2 ⟨a,ha,rfl,hs⟩)
  | true=>exact .inr (whereB_mem.2 ⟨b,hb,rfl,hK.out a hs b hb he⟩)
theorem cover_size {m n:Int} {l:List PairD} (h:mcheck m n l=0):(mostR m n l).1.length=(coverR m n l).1.length+(coverR m n l).2.1.length∧(coverR m n l).1.length≤40∧(coverR m n l).2.1.length≤40:=by
  obtain ⟨M,N,s,rfl,rfl,hM,hN,hin,hI,hK,e1,e2⟩:=cover_facts h
  rw [e1,e2]
  have h1:=whereB_len false s.1 M
  have h2:=whereB_len true s.2 N
  refine ⟨?_,by show (whereB false s.1 M).length≤40; omega,by show (whereB true s.2 N).length≤40; omega⟩
  show (outP (mostF (M:Int) (N:Int) l).2.1 M).length=(whereB false s.1 M).length+(whereB true s.2 N).length
  rw [outP_count]
  exact (konig_count hI hK).1
end Go.Proofs.Ytegigiecamjobaa
