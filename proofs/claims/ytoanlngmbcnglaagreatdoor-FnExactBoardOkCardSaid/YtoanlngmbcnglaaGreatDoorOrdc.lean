/- Right sessions and plans, a part. -/
import Derived.Test.YtoanlngmbcnglaaGreatDoorOrda
namespace Go.Proofs.YtoanlngmbcnglaaGreatDoor.Am
open Go
set_option linter.unusedVariables false
set_option linter.unusedSimpArgs false
section
open Go.Proofs Classical
set_option maxRecDepth 100000
theorem DE {q0:Kd}(c:List GSession)(a:List GPlan)(d:List GRun)(e f v3:Int)(b g1:GPlan)(g:(decide (v3<(a.length:Int)))=true)(h:ak a v3=some b)(i:ac.sm b.f0)(j:(aO b.f0)=true)(l:(decide (v3>(0:Int)))=true)(m:ak a (IntKind.wrap .i64 (v3-(1:Int)))=some g1)(n:(!Op.bytesLess g1.f0.f0.toList b.f0.f0.toList)=false)(o:(ae b.f2 b.f0.f2 (68374080:Int))=true)(p:(ae b.f3 b.f0.f2 (68374079:Int))=false):bf (aP q0 c a d e f v3) .ret (a7 q0 false):=
 RP [T8 (a.length:Int),.b true,.row ((GPlan.t q0 q0) b),rT,.b true,.row ((GPlan.t q0 q0) g1),.b false,rT,rF] (ALn a (GPlan.t q0 q0)<|AC g<|AR (GPlan.t q0 q0) h<|AV (ψ:=fun k=>E.C k 34 [.agg (GDag.t .far q0 b.f0)]=some [T3 true]) (TZ (iw b.f0 i) (by rw[j]))<|AC l<|AR (GPlan.t q0 q0) m<|AC n<|AD (T1 (ag b.f2 b.f0.f2 68374080) o)<|AD (T1 (ag b.f3 b.f0.f2 68374079) p)<|AN)
theorem DF {q0:Kd}(c:List GSession)(a:List GPlan)(d:List GRun)(e f v3:Int)(b g1:GPlan)(g:(decide (v3<(a.length:Int)))=true)(h:ak a v3=some b)(i:ac.sm b.f0)(j:(aO b.f0)=true)(l:(decide (v3>(0:Int)))=true)(m:ak a (IntKind.wrap .i64 (v3-(1:Int)))=some g1)(n:(!Op.bytesLess g1.f0.f0.toList b.f0.f0.toList)=false)(o:(ae b.f2 b.f0.f2 (68374080:Int))=false):bf (aP q0 c a d e f v3) .ret (a7 q0 false):=
 RP [T8 (a.length:Int),.b true,.row ((GPlan.t q0 q0) b),rT,.b true,.row ((GPlan.t q0 q0) g1),.b false,rF] (ALn a (GPlan.t q0 q0)<|AC g<|AR (GPlan.t q0 q0) h<|AV (ψ:=fun k=>E.C k 34 [.agg (GDag.t .far q0 b.f0)]=some [T3 true]) (TZ (iw b.f0 i) (by rw[j]))<|AC l<|AR (GPlan.t q0 q0) m<|AC n<|AD (T1 (ag b.f2 b.f0.f2 68374080) o)<|AN)
theorem DG {q0:Kd}(b:List GSession)(a:List GPlan)(c:List GRun)(d e v3:Int)(f:GPlan)(g:(decide (v3<(a.length:Int)))=true)(h:ak a v3=some f)(i:ac.sm f.f0)(j:(aO f.f0)=true)(l:(decide (v3>(0:Int)))=false)(m:(ae f.f2 f.f0.f2 (68374080:Int))=true)(n:(ae f.f3 f.f0.f2 (68374079:Int))=true)(o:ac.sm (GBoard.mk b a c d e))(p:(decide ((bE (GBoard.mk b a c d e) f.f0.f0)>(2:Int)))=true):bf (aP q0 b a c d e v3) .ret (a7 q0 false):=
 RP [T8 (a.length:Int),.b true,.row ((GPlan.t q0 q0) f),rT,.b false,rT,rT,.ret [T2 (bE (GBoard.mk b a c d e) f.f0.f0)],.b true] (ALn a (GPlan.t q0 q0)<|AC g<|AR (GPlan.t q0 q0) h<|AV (ψ:=fun k=>E.C k 34 [.agg (GDag.t .far q0 f.f0)]=some [T3 true]) (TZ (iw f.f0 i) (by rw[j]))<|AC l<|AD (T1 (ag f.f2 f.f0.f2 68374080) m)<|AD (T1 (ag f.f3 f.f0.f2 68374079) n)<|AV (ψ:=fun k=>E.C k 35 [.agg (GBoard.t .far q0 (GBoard.mk b a c d e)),T7 f.f0.f0]=some [T2 (bE (GBoard.mk b a c d e) f.f0.f0)]) (oT (GBoard.mk b a c d e) f.f0.f0 o)<|AC p<|AN)
end
end Go.Proofs.YtoanlngmbcnglaaGreatDoor.Am
