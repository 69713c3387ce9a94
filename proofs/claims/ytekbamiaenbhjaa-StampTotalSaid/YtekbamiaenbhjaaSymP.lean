/- The plain law of the symmetric merge: what a rotation parts, sorted part by part, is sorted whole. -/
import Derived.Test.YtekbamiaenbhjaaSortA
namespace Go.Proofs.Ytekbamiaenbhjaa
open Go.Ex Go.Sort
set_option maxRecDepth 100000
section
variable {α:Type} {lt:α→α→Bool}
def Y1 (lt:α→α→Bool) (l:List α):Prop:=l.Pairwise (fun x y=>lt y x=false)
theorem b3z (hO:SWO lt) {X Y Z:List α} (hp:(X++Y).Perm Z) (hle:∀ x∈X,∀ y∈Y,lt y x=false) (ht:∀ a∈Z,∀ b∈Z,lt a b=false→lt b a=false→a=b):y8 lt X++y8 lt Y=y8 lt Z:=by
  refine Z2 hO (((G5 lt X).append (G5 lt Y)).trans hp) ?_ ht
  refine List.pairwise_append.2 ⟨S8 hO X,S8 hO Y,fun x hx y hy=>?_⟩
  exact hle x ((G5 lt X).mem_iff.1 hx) y ((G5 lt Y).mem_iff.1 hy)
theorem b0K (hO:SWO lt) {A:List α} {a x:α} (h:Y1 lt (A++[a])) (hx:x∈A++[a]):lt a x=false:=by
  rcases List.mem_append.1 hx with hx|hx
  · exact (List.pairwise_append.1 h).2.2 x hx a (by simp)
  · have:x=a:=by simpa using hx
    subst this; exact hO.irrefl x
theorem b7d (hO:SWO lt) {D:List α} {d y:α} (h:Y1 lt (d::D)) (hy:y∈d::D):lt y d=false:=by
  rcases List.mem_cons.1 hy with rfl|hy
  · exact hO.irrefl y
  · exact (List.pairwise_cons.1 h).1 y hy
theorem b5g (hO:SWO lt) {A B C D:List α} (h1:Y1 lt (A++B)) (h2:Y1 lt (C++D)) (hAD:∀ A' a d D',A=A'++[a]→D=d::D'→lt d a=false) (hCB:∀ C' c b B',C=C'++[c]→B=b::B'→lt b c=false) :
    ∀ x∈A++C,∀ y∈B++D,lt y x=false:=by
  obtain ⟨a1,a2,a3⟩:=List.pairwise_append.1 h1
  obtain ⟨c1,c2,c3⟩:=List.pairwise_append.1 h2
  have far:∀ {P Q:List α},Y1 lt P→Y1 lt Q→(∀ P' p q Q',P=P'++[p]→Q=q::Q'→lt q p=false)→∀ x∈P,∀ y∈Q,lt y x=false:=by
    intro P Q hP hQ h x hx y hy
    obtain ⟨P',p,rfl⟩:∃ P' p,P=P'++[p]:=by
      rcases List.eq_nil_or_concat P with rfl|⟨P',p,rfl⟩
      · cases hx
      · exact ⟨P',p,by simp⟩
    cases Q with
    | nil=>cases hy
    | cons q Q' =>
      have e1:=b0K hO hP hx
      have e2:=b7d hO hQ hy
      have e3:=h P' p q Q' rfl rfl
      exact hO.ntrans _ _ _ e2 (hO.ntrans _ _ _ e3 e1)
  intro x hx y hy
  rcases List.mem_append.1 hx with hx|hx<;>rcases List.mem_append.1 hy with hy|hy
  · exact a3 x hx y hy
  · exact far a1 c2 hAD x hx y hy
  · exact far c1 a2 hCB x hx y hy
  · exact c3 x hx y hy
theorem b5f (hO:SWO lt) {A B C D:List α} (h1:Y1 lt (A++B)) (h2:Y1 lt (C++D)) (hAD:∀ A' a d D',A=A'++[a]→D=d::D'→lt d a=false) (hCB:∀ C' c b B',C=C'++[c]→B=b::B'→lt b c=false)
    (ht:∀ a∈A++B++(C++D),∀ b∈A++B++(C++D),lt a b=false→lt b a=false→a=b):y8 lt (A++C)++y8 lt (B++D)=y8 lt (A++B++(C++D)):=by
  refine b3z hO ?_ (b5g hO h1 h2 hAD hCB) ht
  rw [List.append_assoc,List.append_assoc]
  refine List.Perm.append_left A ?_
  rw [← List.append_assoc,← List.append_assoc]
  exact List.Perm.append_right D List.perm_append_comm
end
end Go.Proofs.Ytekbamiaenbhjaa
