/- Right runs of a board, a part. -/
import Derived.Test.YtoanlngmbcnglaaGreatDoorRuna
namespace Go.Proofs.YtoanlngmbcnglaaGreatDoor.Am
open Go
set_option linter.unusedVariables false
set_option linter.unusedSimpArgs false
section
open Go.Proofs Classical
set_option maxRecDepth 100000
theorem Fh {q0:Kd}(c:List GSession)(b:List GPlan)(a:List GRun)(d e:Int)(v3:List Int)(v4:Int)(f:GRun)(g1:GPlan)(g:(decide (v4<(a.length:Int)))=true)(h:ak a v4=some f)(i:ac.sm (GBoard.mk c b a d e))(j:(decide ((aF (GBoard.mk c b a d e) f.f0)<(0:Int)))=false)(l:(decide (v4>(0:Int)))=false)(m:ak b (aF (GBoard.mk c b a d e) f.f0)=some g1)(n:ac.sm g1.f0)(o:aO g1.f0=true)(p:(bT g1.f0 f)=false):bo (aU q0 c b a d e v3 v4) .ret (bh q0 false):=
 RP [T8 (a.length:Int),.b true,.row ((GRun.t q0) f),.ret [T2 (aF (GBoard.mk c b a d e) f.f0)],.b false,.b false,.row ((GPlan.t q0 q0) g1),rF] (ALn a (GRun.t q0)<|AC g<|AR (GRun.t q0) h<|AV (ψ:=fun k=>E.C k 36 [.agg (GBoard.t .far q0 (GBoard.mk c b a d e)),T7 f.f0]=some [T2 (aF (GBoard.mk c b a d e) f.f0)]) (fp (GBoard.mk c b a d e) f.f0 i)<|AC j<|AC l<|AR (GPlan.t q0 q0) m<|AV (ψ:=fun k=>E.C k 38 [.agg (GDag.t .far q0 g1.f0),.agg (GRun.t .far f)]=some [T3 false]) (TZ (jD g1.f0 f n o) (by rw[p]))<|AN)
theorem DL {q0:Kd}(b:List GSession)(c:List GPlan)(a:List GRun)(d e:Int)(v3:List Int)(v4:Int)(f:(decide (v4<(a.length:Int)))=false):bo (aU q0 b c a d e v3 v4) (.exit 0) (mU q0 b c a d e):=
 RP [T8 (a.length:Int),.b false] (ALn a (GRun.t q0)<|AC f<|AN)
end
end Go.Proofs.YtoanlngmbcnglaaGreatDoor.Am
