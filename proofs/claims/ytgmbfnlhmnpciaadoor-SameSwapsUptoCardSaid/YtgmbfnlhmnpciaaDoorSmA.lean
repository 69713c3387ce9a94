/- same.number by hand: out of the library's contracts for strings.TrimPrefix, strings.Trim and strconv.Atoi. Plain part. -/
import Derived.Test.YtgmbfnlhmnpciaaDoorProg
import Derived.Lib.SlTrimSet
import Derived.Lib.Atoi
import Derived.Lib.Strings
namespace Go.Proofs.YtgmbfnlhmnpciaaDoor

set_option maxRecDepth 100000
def digs:List UInt8:=[48,49,50,51,52,53,54,55,56,57]
def tailN (s:List UInt8):List UInt8:=Lib.trimPrefix s [45]
def goodN (s:List UInt8):Bool:=decide (1≤(tailN s).length) && decide ((tailN s).length≤9) && (tailN s).all (digs.contains ·)
def numF (s:List UInt8):Int×Bool:=if goodN s then ((Lib.atoi s).getD 0,true) else (0,false)

theorem dropWhile_nil {p:UInt8→Bool}:∀ {l:List UInt8},l.dropWhile p=[]↔l.all p=true
  | []=>by simp
  | b::l=>by
    rw [List.dropWhile_cons,List.all_cons]
    cases h:p b with
    | true=>simpa [h] using dropWhile_nil (p:=p) (l:=l)
    | false=>simp
theorem all_rev {p:UInt8→Bool} (l:List UInt8):l.reverse.all p=l.all p:=by simp
theorem all_dropWhile {p:UInt8→Bool}:∀ {l:List UInt8},(l.dropWhile p).all p=l.all p
  | []=>rfl
  | b::l=>by
    rw [List.dropWhile_cons]
    cases h:p b with
    | true=>rw [if_pos rfl,all_dropWhile (l:=l),List.all_cons,h,Bool.true_and]
    | false=>rw [if_neg (by simp)]
theorem trimS_nil {l cs:List UInt8}:Lib.trimS l cs=[]↔l.all (cs.contains ·)=true:=by
  unfold Lib.trimS Lib.trimLeftS Lib.trimRightS
  rw [dropWhile_nil,all_rev,all_dropWhile,all_rev]

theorem digit_of {b:UInt8} (h:digs.contains b=true):∃ d,Lib.digitVal b=some d∧d≤9:=by
  simp only [digs,List.contains_iff_mem,List.mem_cons,List.mem_nil_iff,or_false] at h
  rcases h with rfl|rfl|rfl|rfl|rfl|rfl|rfl|rfl|rfl|rfl<;>exact ⟨_,rfl,by decide⟩
theorem decFrom_some:∀ {l:List UInt8} {acc:Nat},l.all (digs.contains ·)=true→∃ n,Lib.decFrom acc l=some n∧n<(acc+1)*10^l.length
  | [],acc,_=>⟨acc,rfl,by simp⟩
  | b::l,acc,h=>by
    rw [List.all_cons,Bool.and_eq_true] at h
    obtain ⟨d,hd,h9⟩:=digit_of h.1
    obtain ⟨n,e,hn⟩:=decFrom_some (acc:=acc*10+d) h.2
    refine ⟨n,by simp only [Lib.decFrom,hd]; exact e,Nat.lt_of_lt_of_le hn ?_⟩
    rw [List.length_cons,Nat.pow_succ,Nat.mul_comm (10^l.length) 10,← Nat.mul_assoc]
    exact Nat.mul_le_mul_right _ (by omega)

theorem good_atoi {s:List UInt8} (h:goodN s=true):s.length≤10∧∃ n:Int,Lib.atoi s=some n∧-999999999≤n∧n≤999999999:=by
  simp only [goodN,Bool.and_eq_true,decide_eq_true_eq] at h
  obtain ⟨⟨h1,h2⟩,h3⟩:=h
  have core:∀ {t:List UInt8},1≤t.length→t.length≤9→t.all (digs.contains ·)=true→∃ n,Lib.decNat t=some n∧n≤999999999:=by
    intro t t1 t2 t3
    obtain ⟨n,e,hn⟩:=decFrom_some (acc:=0) t3
    refine ⟨n,?_,?_⟩
    · unfold Lib.decNat
      rw [if_neg (by cases t<;>simp at t1 ⊢)]
      exact e
    · have:10^t.length≤10^9:=Nat.pow_le_pow_right (by decide) t2
      have e9:10^9=1000000000:=by decide
      omega
  cases s with
  | nil=>simp [tailN,Lib.trimPrefix,Lib.hasPrefix] at h1
  | cons b r =>
    by_cases hb:b=45
    · subst hb
      have ht:tailN (45::r)=r:=by simp [tailN,Lib.trimPrefix,Lib.hasPrefix]
      rw [ht] at h1 h2 h3
      obtain ⟨n,e,hn⟩:=core h1 h2 h3
      refine ⟨by simp only [List.length_cons]; omega,-(n:Int),?_,by omega,by omega⟩
      simp [Lib.atoi,e]
    · have ht:tailN (b::r)=b::r:=by
        unfold tailN Lib.trimPrefix
        rw [if_neg]
        simp [Lib.hasPrefix,Ne.symm hb]
      rw [ht] at h1 h2 h3
      obtain ⟨n,e,hn⟩:=core h1 h2 h3
      have h43:b≠43:=by
        rintro rfl
        rw [List.all_cons,Bool.and_eq_true] at h3
        exact absurd h3.1 (by decide)
      refine ⟨by omega,(n:Int),?_,by omega,by omega⟩
      simp [Lib.atoi,hb,h43,e]
end Go.Proofs.YtgmbfnlhmnpciaaDoor
