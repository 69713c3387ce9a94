/- Rounds of api.Synod are alike or not. -/
import Derived.Test.YtekbamiaenbhjaaOwnA
import Derived.Test.YtekbamiaenbhjaaQT
import Derived.Test.YtekbamiaenbhjaaSynD
namespace Go.Proofs.Ytekbamiaenbhjaa
open Go.Ex
set_option maxRecDepth 100000
set_option synthInstance.maxHeartbeats 400000 in
set_option synthInstance.maxSize 2000 in
instance instDR:DecidableEq j9:=inferInstance
end Go.Proofs.Ytekbamiaenbhjaa
