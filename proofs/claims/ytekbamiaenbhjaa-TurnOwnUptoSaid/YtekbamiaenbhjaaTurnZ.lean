/- TurnOwn: the walk's beginning. -/
import Derived.Test.YtekbamiaenbhjaaTurnX
namespace Go.Proofs.Ytekbamiaenbhjaa
open Go.Ex Go.Sort
set_option maxRecDepth 100000
attribute [local irreducible] Z7 S5 fixF
set_option maxHeartbeats 4000000 in
theorem a8n:b1q.Valid Try.prog 11:=by
  refine w6.t6 a0w rfl rfl Try.func11 (c:=d9 Try.prog 11) rfl rfl a0v rfl ?_
  rintro ⟨⟨(me:Int),(ck:Int),(ws:List w7),⟨⟩⟩,(id:Int),⟨(tn:Int),(th:Int),(W:List (List Int)),(lg:List Int),(td:List Int),⟨⟩⟩,⟨(b1:Int),(b2:Int),(b3:Int),⟨⟩⟩,⟨⟩⟩ hs -
  have hb:Ty.F2 a2a (me,ck,ws,())+(Ty.F2 s6 id+(Ty.F2 a1x (tn,th,W,lg,td,())+(Ty.F2 a3b (b1,b2,b3,())+0)))≤1048576:=hs
  have e1:Ty.F2 a2a (me,ck,ws,())=Ty.F2 s6 me+(Ty.F2 s6 ck+((J4 (Ty.F2 I4) ws+1)+Ty.F2 .unit ())):=rfl
  have e2:Ty.F2 a1x (tn,th,W,lg,td,())=Ty.F2 s6 tn+(Ty.F2 s6 th+((J4 (Ty.F2 (.d0 false s6)) W+1)+((J4 (Ty.F2 s6) lg+1)+((J4 (Ty.F2 s6) td+1)+Ty.F2 .unit ())))):=rfl
  have l1:=a0Q (f:=Ty.F2 I4) (fun x=>by show 1≤1+_; omega) ws
  have l2:=a0Q (f:=Ty.F2 (.d0 false s6)) (fun x=>by show 1≤J4 (Ty.F2 s6) x+1; omega) W
  have l3:=a0Q (f:=Ty.F2 s6) (fun x=>by show 1≤1; omega) lg
  have l4:=a0Q (f:=Ty.F2 s6) (fun x=>by show 1≤1; omega) td
  have hws:ws.length≤1048576:=by omega
  have hW:W.length≤1048576:=by omega
  have hlg:lg.length≤1048576:=by omega
  have htd:td.length≤1048576:=by omega
  have hL:∀ r∈W,r.length≤1048576:=fun r hr=>by
    have h1:=a7w (f:=Ty.F2 (.d0 false s6)) hr
    have h2:Ty.F2 (.d0 false s6) r=J4 (Ty.F2 s6) r+1:=rfl
    have h3:=a0Q (f:=Ty.F2 s6) (fun x=>by show 1≤1; omega) r
    omega
  refine l8 (n:=1000) a0w a0v ?_
  refine j9 (b59 me ck ws id tn th W lg td b1 b2 b3) ?_
  have q1:=b4K (me,ck,ws,()) id
  have q2:=b8g (me,ck,ws,()) id (16777215,0,())
  simp only [s4,Tree.holds,true_and,true_implies,decide_eq_true_eq,decide_eq_false_iff_not,Bool.not_eq_true',Bool.not_eq_false',Int.toNat_natCast,x5,List.length_set,List.length_cons,List.length_nil]
  have h0:(0:Int)<(((Z7 (1,0,[[]].set (Int.toNat 0) [],[],[0].set (Int.toNat 0) 0,()) (1,0,5,())).1.2.2.1.length:Nat):Int):=by
    have:=b7O
    show (0:Int)<(((Z7 (1,0,[[]],[],[0],()) (1,0,5,())).1.2.2.1.length:Nat):Int)
    omega
  have two:(1≤2∧2≤2)∧True:=⟨⟨by omega,Nat.le_refl 2⟩,trivial⟩
  refine ⟨⟨by omega,h0⟩,fun _=>⟨hws,fun _=>⟨⟨by omega,hws⟩,fun _=>⟨fun q=>absurd q (by decide),fun _=>⟨by omega,fun _=>⟨by omega,fun _=>⟨by omega,fun _=>⟨two,fun _=>⟨fun q=>absurd trivial q,fun q=>absurd trivial q,fun q=>absurd trivial q,hW,fun _=>?_⟩⟩⟩⟩⟩⟩⟩⟩⟩
  rw [b92]
  exact b4p tn th b1 b2 b3 hW hlg htd hL
end Go.Proofs.Ytekbamiaenbhjaa
