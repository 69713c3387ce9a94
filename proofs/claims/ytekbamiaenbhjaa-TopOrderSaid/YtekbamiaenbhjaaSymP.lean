/- The plain law of the symmetric merge: what a rotation parts, sorted part by part, is sorted whole. -/
import Derived.Test.YtekbamiaenbhjaaSortA
namespace Go.Proofs.Ytekbamiaenbhjaa
open Go.Ex Go.Sort
set_option maxRecDepth 100000
section
variable {α:Type} {lt:α→α→Bool}
def a0i (lt:α→α→Bool) (l:List α):Prop:=l.Pairwise (fun x y=>lt y x=false)
theorem b66 (hO:SWO lt) {X Y Z:List α} (hp:(X++Y).Perm Z) (hle:∀ x∈X,∀ y∈Y,lt y x=false) (ht:∀ a∈Z,∀ b∈Z,lt a b=false→lt b a=false→a=b):x7 lt X++x7 lt Y=x7 lt Z:=by
  refine Y6 hO (((G8 lt X).append (G8 lt Y)).trans hp) ?_ ht
  refine List.pairwise_append.2 ⟨U7 hO X,U7 hO Y,fun x hx y hy=>?_⟩
  exact hle x ((G8 lt X).mem_iff.1 hx) y ((G8 lt Y).mem_iff.1 hy)
theorem b3s (hO:SWO lt) {A:List α} {a x:α} (h:a0i lt (A++[a])) (hx:x∈A++[a]):lt a x=false:=by
  rcases List.mem_append.1 hx with hx|hx
  · exact (List.pairwise_append.1 h).2.2 x hx a (by simp)
  · have:x=a:=by simpa using hx
    subst this; exact hO.irrefl x
theorem c1A (hO:SWO lt) {D:List α} {d y:α} (h:a0i lt (d::D)) (hy:y∈d::D):lt y d=false:=by
  rcases List.mem_cons.1 hy with rfl|hy
  · exact hO.irrefl y
  · exact (List.pairwise_cons.1 h).1 y hy
theorem b9a (hO:SWO lt) {A B C D:List α} (h1:a0i lt (A++B)) (h2:a0i lt (C++D)) (hAD:∀ A' a d D',A=A'++[a]→D=d::D'→lt d a=false) (hCB:∀ C' c b B',C=C'++[c]→B=b::B'→lt b c=false) :
    ∀ x∈A++C,∀ y∈B++D,lt y x=false:=by
  obtain ⟨a1,a2,a3⟩:=List.pairwise_append.1 h1
  obtain ⟨c1,c2,c3⟩:=List.pairwise_append.1 h2
  have far:∀ {P Q:List α},a0i lt P→a0i lt Q→(∀ P' p q Q',P=P'++[p]→Q=q::Q'→lt q p=false)→∀ x∈P,∀ y∈Q,lt y x=false:=by
    intro P Q hP hQ h x hx y hy
    obtain ⟨P',p,rfl⟩:∃ P' p,P=P'++[p]:=by
      rcases List.eq_nil_or_concat P with rfl|⟨P',p,rfl⟩
      · cases hx
      · exact ⟨P',p,by simp⟩
    cases Q with
    | nil=>cases hy
    | cons q Q' =>
      have e1:=b3s hO hP hx
      have e2:=c1A hO hQ hy
      have e3:=h P' p q Q' rfl rfl
      exact hO.ntrans _ _ _ e2 (hO.ntrans _ _ _ e3 e1)
  intro x hx y hy
  rcases List.mem_append.1 hx with hx|hx<;>rcases List.mem_append.1 hy with hy|hy
  · exact a3 x hx y hy
  · exact far a1 c2 hAD x hx y hy
  · exact far c1 a2 hCB x hx y hy
  · exact c3 x hx y hy
theorem b89 (hO:SWO lt) {A B C D:List α} (h1:a0i lt (A++B)) (h2:a0i lt (C++D)) (hAD:∀ A' a d D',A=A'++[a]→D=d::D'→lt d a=false) (hCB:∀ C' c b B',C=C'++[c]→B=b::B'→lt b c=false)
    (ht:∀ a∈A++B++(C++D),∀ b∈A++B++(C++D),lt a b=false→lt b a=false→a=b):x7 lt (A++C)++x7 lt (B++D)=x7 lt (A++B++(C++D)):=by
  refine b66 hO ?_ (b9a hO h1 h2 hAD hCB) ht
  rw [List.append_assoc,List.append_assoc]
  refine List.Perm.append_left A ?_
  rw [← List.append_assoc,← List.append_assoc]
  exact List.Perm.append_right D List.perm_append_comm
end
end Go.Proofs.Ytekbamiaenbhjaa
