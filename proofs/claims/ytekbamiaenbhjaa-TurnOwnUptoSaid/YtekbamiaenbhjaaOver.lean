/- The contracts of the package over's functions. -/
import Derived.Test.YtekbamiaenbhjaaBase
namespace Go.Proofs.Ytekbamiaenbhjaa
open Go.Ex
set_option maxRecDepth 100000
abbrev b9z:=Bool×Int×Int×Unit
abbrev b9v:=Int×Int×Int×Unit
abbrev b9x:=List b9z×List b9v×Unit
def a15:b9z:=(false,0,0,())
def a2F:b9v:=(0,0,0,())
def o0:b9x:=([],[],())
structure OOk (t:b9x):Prop where
  n:1≤t.1.length∧t.1.length≤6
  h:∀ i:Nat,i<t.1.length→(-1≤(t.1.getD i a15).2.1∧(t.1.getD i a15).2.1<t.1.length)∧(0≤(t.1.getD i a15).2.2.1∧(t.1.getD i a15).2.2.1≤16777215)∧(t.1.getD i a15).2.1≠i∧(i=0→(t.1.getD i a15).2.1=-1) ∧
    (i≠0→(t.1.getD i a15).2.1=-1→(t.1.getD i a15).1=false∧(t.1.getD i a15).2.2.1≤0)
  l:t.2.1.length≤100
  w:∀ k,k<t.2.1.length→(0≤(t.2.1.getD k a2F).1∧(t.2.1.getD k a2F).1<t.1.length)∧(0≤(t.2.1.getD k a2F).2.1∧(t.2.1.getD k a2F).2.1<t.1.length)∧(t.2.1.getD k a2F).1≠(t.2.1.getD k a2F).2.1∧(0≤(t.2.1.getD k a2F).2.2.1∧(t.2.1.getD k a2F).2.2.1≤1)
end Go.Proofs.Ytekbamiaenbhjaa
