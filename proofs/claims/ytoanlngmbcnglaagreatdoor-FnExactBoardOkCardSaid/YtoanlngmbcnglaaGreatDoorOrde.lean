/- Right sessions and plans, a part. -/
import Derived.Test.YtoanlngmbcnglaaGreatDoorOrda
namespace Go.Proofs.YtoanlngmbcnglaaGreatDoor.Am
open Go
set_option linter.unusedVariables false
set_option linter.unusedSimpArgs false
section
open Go.Proofs Classical
set_option maxRecDepth 100000
theorem DK {q0:Kd}(c:List GSession)(a:List GPlan)(d:List GRun)(e f v3:Int)(b:GPlan)(g:(decide (v3<(a.length:Int)))=true)(h:ak a v3=some b)(i:ac.sm b.f0)(j:(aO b.f0)=false):bf (aP q0 c a d e f v3) .ret (a7 q0 false):=
 RP [T8 (a.length:Int),.b true,.row ((GPlan.t q0 q0) b),rF] (ALn a (GPlan.t q0 q0)<|AC g<|AR (GPlan.t q0 q0) h<|AV (ψ:=fun k=>E.C k 34 [.agg (GDag.t .far q0 b.f0)]=some [T3 false]) (TZ (iw b.f0 i) (by rw[j]))<|AN)
theorem Cb {q0:Kd}(b:List GSession)(a:List GPlan)(c:List GRun)(d e v3:Int)(f:(decide (v3<(a.length:Int)))=false):bf (aP q0 b a c d e v3) (.exit 0) (lP q0 b a c d e):=
 RP [T8 (a.length:Int),.b false] (ALn a (GPlan.t q0 q0)<|AC f<|AN)
end
end Go.Proofs.YtoanlngmbcnglaaGreatDoor.Am
