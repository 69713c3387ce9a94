/- ample at int: what it answers is new. -/
import Derived.Test.YtekbamiaenbhjaaOwnP
namespace Go.Proofs.Ytekbamiaenbhjaa
open Go.Ex
set_option maxRecDepth 100000
theorem b73 {H:Array Go.Obj} {S S':Nat→Prop} {t:Ty} (hn:t.F6=true) {O:List Nat} {cs:List Value} {l m:List t.den} (h:f7 H S (.r7 t) O cs ((2,l,m):Nat×(List t.den×List t.den))):f7 H S' (.r7 t) O cs ((2,l,m):Nat×(List t.den×List t.den)):=by
  obtain ⟨b,off,O',c1,c2,c3,c4,c5⟩:=h
  exact ⟨b,off,O',c1,c2,c3,i7.mono (L:=O') (fun _ h=>h) (fun _ _ _ _ h=>f7.F6 hn h) c4,c5⟩
def b7g:w6:={ ps:=[.v (.d0 false s6),.v s6],rs:=[.r7 s6],pre:=fun x=>List.length (α:=Int) x.1≤1048576,fn:=fun x=>((2,x.1,[x.2.1,x.2.1,0]),()),out:=fun _=>(),new:=true }
theorem b1p:b7g.Valid Try.prog 20:=by
  refine ⟨a26.ent,a26.run,fun _=>?_⟩
  rintro w S vs x L hS hgl hp hk hl hnd hL
  refine (a26.run w S vs x L hS hgl hp hk hl hnd hL).mono ?_
  rintro e w' ⟨us,O,Lo,S',e1,e2,e3,e4,e5,e6,e7,e8⟩
  refine ⟨us,O,Lo,S',e1,e2,e3,e4,e5,e6,e7,e8,?_⟩
  obtain ⟨v,us',O1,O2,cs,q1,q2,q3,q4,q5,q6⟩:=e5
  exact ⟨v,us',O1,O2,cs,q1,q2,q3,b73 (t:=s6) rfl q4,q5,q6⟩
end Go.Proofs.Ytekbamiaenbhjaa
