/- Small contracts: Rest; search; what deleting leaves. No condition but those named. -/
import Derived.Test.YtgmbfnlhmnpciaaUtil
namespace Go.Proofs.Ytgmbfnlhmnpciaa
open Go.Ex
set_option maxRecDepth 100000
def inF (n a b:Int):Bool:=decide (a≤n) && decide (n≤b)
theorem inF_iff {n a b:Int}:inF n a b=true↔a≤n∧n≤b:=by simp [inF]
theorem del_mid {α:Type} {l:List α} {i j:Int} (h0:0≤i) (h1:i≤j) (h2:j≤(l.length:Int)):cut2 j (l.length:Int) l=l.drop j.toNat:=by
  rw [cut2]; exact List.take_of_length_le (by rw [List.length_drop]; omega)
theorem del_len {α:Type} {l:List α} {i j:Int} (h0:0≤i) (h1:i≤j) (h2:j≤(l.length:Int)):((cut2 j (l.length:Int) l).length:Int)=(l.length:Int) - j∧(List.take i.toNat l++cut2 j (l.length:Int) l++List.drop (i.toNat+(cut2 j (l.length:Int) l).length) l).length=l.length:=by
  rw [del_mid h0 h1 h2]
  simp only [List.length_append,List.length_take,List.length_drop]
  omega
theorem del_fin {α:Type} {l:List α} {d:List α} {i j:Int} (h0:0≤i) (h1:i≤j) (h2:j≤(l.length:Int)) {r:Nat} :
    cut2 (0:Int) (i+(↑(List.length (cut2 j (↑(List.length l):Int) l)):Int)) (List.take (Int.toNat ((0:Int)+(i+(↑(List.length (cut2 j (↑(List.length l):Int) l)):Int) - (0:Int)))) (List.take (Int.toNat i) l++cut2 j (↑(List.length l):Int) l++List.drop (Int.toNat i+List.length (cut2 j (↑(List.length l):Int) l)) l)++d++List.drop r (List.take (Int.toNat i) l++cut2 j (↑(List.length l):Int) l++List.drop (Int.toNat i+List.length (cut2 j (↑(List.length l):Int) l)) l))=List.take i.toNat l++List.drop j.toNat l:=by
  obtain ⟨e1,e2⟩:=del_len h0 h1 h2 (l:=l)
  rw [del_mid h0 h1 h2] at e1 e2 ⊢
  generalize hX:List.take i.toNat l++List.drop j.toNat l++List.drop (i.toNat+(List.drop j.toNat l).length) l=X at e2 ⊢
  have em:(0+(i+((List.drop j.toNat l).length:Int) - 0)).toNat=(List.take i.toNat l++List.drop j.toNat l).length:=by
    simp only [List.length_append,List.length_take]; omega
  have en:(i+((List.drop j.toNat l).length:Int) - 0).toNat=(List.take i.toNat l++List.drop j.toNat l).length:=by
    simp only [List.length_append,List.length_take]; omega
  rw [cut2,em,en,Int.toNat_zero,List.drop_zero,List.append_assoc,List.take_append_of_le_length (by
    rw [List.length_take,e2]
    simp only [List.length_append,List.length_take,List.length_drop]; omega),List.take_take,Nat.min_self,← hX,List.take_left]

def rest (a n:Int):Int:=if n≤0 then 0 else Int.tmod (Int.tmod a n+n) n
def crest:Ctr:={ ps:=[.v I64,.v I64],rs:=[I64],pre:=fun x=>LE.le (α:=Int) x.2.1 1000000000,fn:=fun x=>(rest x.1 x.2.1,()),out:=fun _=>() }
noncomputable def Erest:Env:={ P:=Try.prog,tt:=tt,ctr:=[],res:=[Go.ResultVar.tmp 4],rs:=[Ty.int IntKind.i64],ps:=[PK.v (Ty.int IntKind.i64),PK.v (Ty.int IntKind.i64)],cuts:=[],nt:=14 }
theorem Erest_ok:EnvOk Erest:=envOk tt_ok trivial
theorem Frest_ok:FnOk Erest Try.f8:=⟨rfl,rfl⟩
theorem Erest_t (x0:Int) (x1:Int):exec Erest 1000 [.code (bodyOf Try.prog 8)] (initSt crest.ps ((x0,x1,()))) =
  cond (decide (x1≤(0:Int))) (.ret (((0:Int),()))) (.need ((0:Int)<x1) (.need (inK IntKind.i64 (Int.tmod x0 x1+x1)) (.need ((0:Int)<x1) (.ret ((Int.tmod (Int.tmod x0 x1+x1) x1,())))))):=by kernel_rfl
theorem crest_valid:crest.Valid Try.prog 8:=by
  refine Ctr.valid_of Erest_ok rfl rfl Try.func8 (c:=bodyOf Try.prog 8) rfl rfl Frest_ok rfl ?_
  rintro ⟨(x0:Int),(x1:Int),⟨⟩⟩ hp -
  refine exec_sound (n:=1000) Erest_ok Frest_ok ?_
  refine holds_of_eq (Erest_t x0 x1) ?_
  have hp:x1≤1000000000:=hp
  simp only [holds_cond,Tree.holds,true_and,true_implies,decide_eq_true_eq,decide_eq_false_iff_not,Bool.not_eq_true',Bool.not_eq_false',Int.toNat_natCast,inK_i64,List.length_set,List.length_cons,List.length_nil]
  refine ⟨fun a=>?_,fun a=>?_⟩
  · show ((0,()):Int×Unit)=(rest x0 x1,())
    rw [rest,if_pos a]
  · have h0:0<x1:=by omega
    have h1:=Int.tmod_lt_of_pos x0 h0
    have h2:-x1<Int.tmod x0 x1:=by
      have:=Int.tmod_lt_of_pos (-x0) h0
      rw [Int.neg_tmod] at this
      omega
    refine ⟨h0,fun _=>⟨by omega,fun _=>⟨h0,fun _=>?_⟩⟩⟩
    show ((_,()):Int×Unit)=(rest x0 x1,())
    rw [rest,if_neg a]
theorem rest_in {a n:Int} (h:0<n):0≤rest a n∧rest a n<n:=by
  have h1:=Int.tmod_lt_of_pos (-a) h
  rw [Int.neg_tmod] at h1
  rw [rest,if_neg (by omega)]
  exact ⟨Int.tmod_nonneg _ (by omega),Int.tmod_lt_of_pos _ h⟩
def anyN (f:Nat→Bool):Nat→Bool
  | 0=>false
  | k+1=>anyN f k || f k
theorem anyN_no {f:Nat→Bool}:∀ {n:Nat},anyN f n=false↔∀ k,k<n→f k=false
  | 0=>by simp [anyN]
  | n+1=>by
    rw [anyN,Bool.or_eq_false_iff,anyN_no (n:=n)]
    constructor
    · rintro ⟨h1,h2⟩ k hk
      by_cases e:k=n
      · rw [e]; exact h2
      · exact h1 k (by omega)
    · intro h; exact ⟨fun k hk=>h k (by omega),h n (by omega)⟩
theorem anyN_yes {f:Nat→Bool} {k n:Nat} (h:f k=true) (hk:k<n):anyN f n=true:=by
  cases e:anyN f n with
  | true=>rfl
  | false=>rw [anyN_no.1 e k hk] at h; cases h
theorem tnf {b:Bool} (h:b=true):¬ b=false:=by rw [h]; simp
theorem cut2_tk {α:Type} {l:List α} {i:Nat}:cut2 0 (i:Int) l=l.take i:=by
  rw [cut2,show ((i:Int) - 0).toNat=i by omega]; rfl
end Go.Proofs.Ytgmbfnlhmnpciaa
