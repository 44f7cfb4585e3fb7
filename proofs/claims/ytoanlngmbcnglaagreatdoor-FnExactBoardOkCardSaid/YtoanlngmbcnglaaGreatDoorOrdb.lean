/- Right sessions and plans, a part. -/
import Derived.Test.YtoanlngmbcnglaaGreatDoorOrda
namespace Go.Proofs.YtoanlngmbcnglaaGreatDoor.Am
open Go
set_option linter.unusedVariables false
set_option linter.unusedSimpArgs false
section
open Go.Proofs Classical
set_option maxRecDepth 100000
theorem DB {q0:Kd}(c:List GSession)(a:List GPlan)(d:List GRun)(e f v3:Int)(b g1:GPlan)(g:(decide (v3<(a.length:Int)))=true)(h:ak a v3=some b)(i:ac.sm b.f0)(j:(aO b.f0)=true)(l:(decide (v3>(0:Int)))=true)(m:ak a (IntKind.wrap .i64 (v3-(1:Int)))=some g1)(n:(!Op.bytesLess g1.f0.f0.toList b.f0.f0.toList)=true):bf (aP q0 c a d e f v3) .ret (a7 q0 false):=
 RP [T8 (a.length:Int),.b true,.row ((GPlan.t q0 q0) b),rT,.b true,.row ((GPlan.t q0 q0) g1),.b true] (ALn a (GPlan.t q0 q0)<|AC g<|AR (GPlan.t q0 q0) h<|AV (ψ:=fun k=>E.C k 34 [.agg (GDag.t .far q0 b.f0)]=some [T3 true]) (TZ (iw b.f0 i) (by rw[j]))<|AC l<|AR (GPlan.t q0 q0) m<|AC n<|AN)
theorem DC {q0:Kd}(b:List GSession)(a:List GPlan)(c:List GRun)(d e v3:Int)(f g1:GPlan)(h:(decide (v3<(a.length:Int)))=true)(i:ak a v3=some f)(j:ac.sm f.f0)(l:(aO f.f0)=true)(m:(decide (v3>(0:Int)))=true)(n:ak a (IntKind.wrap .i64 (v3-(1:Int)))=some g1)(o:(!Op.bytesLess g1.f0.f0.toList f.f0.f0.toList)=false)(p:(ae f.f2 f.f0.f2 (68374080:Int))=true)(q:(ae f.f3 f.f0.f2 (68374079:Int))=true)(r:ac.sm (GBoard.mk b a c d e))(g:(decide ((bE (GBoard.mk b a c d e) f.f0.f0)>(2:Int)))=true):bf (aP q0 b a c d e v3) .ret (a7 q0 false):=
 RP [T8 (a.length:Int),.b true,.row ((GPlan.t q0 q0) f),rT,.b true,.row ((GPlan.t q0 q0) g1),.b false,rT,rT,.ret [T2 (bE (GBoard.mk b a c d e) f.f0.f0)],.b true] (ALn a (GPlan.t q0 q0)<|AC h<|AR (GPlan.t q0 q0) i<|AV (ψ:=fun k=>E.C k 34 [.agg (GDag.t .far q0 f.f0)]=some [T3 true]) (TZ (iw f.f0 j) (by rw[l]))<|AC m<|AR (GPlan.t q0 q0) n<|AC o<|AD (T1 (ag f.f2 f.f0.f2 68374080) p)<|AD (T1 (ag f.f3 f.f0.f2 68374079) q)<|AV (ψ:=fun k=>E.C k 35 [.agg (GBoard.t .far q0 (GBoard.mk b a c d e)),T7 f.f0.f0]=some [T2 (bE (GBoard.mk b a c d e) f.f0.f0)]) (oT (GBoard.mk b a c d e) f.f0.f0 r)<|AC g<|AN)
theorem DD {q0:Kd}(b:List GSession)(a:List GPlan)(c:List GRun)(d e v3:Int)(f g1:GPlan)(h:(decide (v3<(a.length:Int)))=true)(i:ak a v3=some f)(j:ac.sm f.f0)(l:(aO f.f0)=true)(m:(decide (v3>(0:Int)))=true)(n:ak a (IntKind.wrap .i64 (v3-(1:Int)))=some g1)(o:(!Op.bytesLess g1.f0.f0.toList f.f0.f0.toList)=false)(p:(ae f.f2 f.f0.f2 (68374080:Int))=true)(q:(ae f.f3 f.f0.f2 (68374079:Int))=true)(r:ac.sm (GBoard.mk b a c d e))(g:(decide ((bE (GBoard.mk b a c d e) f.f0.f0)>(2:Int)))=false):bf (aP q0 b a c d e v3) .normal (aP q0 b a c d e (inc v3)):=
 RP [T8 (a.length:Int),.b true,.row ((GPlan.t q0 q0) f),rT,.b true,.row ((GPlan.t q0 q0) g1),.b false,rT,rT,.ret [T2 (bE (GBoard.mk b a c d e) f.f0.f0)],.b false] (ALn a (GPlan.t q0 q0)<|AC h<|AR (GPlan.t q0 q0) i<|AV (ψ:=fun k=>E.C k 34 [.agg (GDag.t .far q0 f.f0)]=some [T3 true]) (TZ (iw f.f0 j) (by rw[l]))<|AC m<|AR (GPlan.t q0 q0) n<|AC o<|AD (T1 (ag f.f2 f.f0.f2 68374080) p)<|AD (T1 (ag f.f3 f.f0.f2 68374079) q)<|AV (ψ:=fun k=>E.C k 35 [.agg (GBoard.t .far q0 (GBoard.mk b a c d e)),T7 f.f0.f0]=some [T2 (bE (GBoard.mk b a c d e) f.f0.f0)]) (oT (GBoard.mk b a c d e) f.f0.f0 r)<|AC g<|AN)
end
end Go.Proofs.YtoanlngmbcnglaaGreatDoor.Am
