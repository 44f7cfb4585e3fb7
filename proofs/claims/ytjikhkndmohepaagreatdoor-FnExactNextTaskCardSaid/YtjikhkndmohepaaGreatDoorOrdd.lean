/- Right sessions and plans, a part. -/
import Derived.Test.YtjikhkndmohepaaGreatDoorOrda
namespace Go.Proofs.YtjikhkndmohepaaGreatDoor.Am
open Go
set_option linter.unusedVariables false
set_option linter.unusedSimpArgs false
section
open Go.Proofs Classical
set_option maxRecDepth 100000
theorem ER {q0:Kd}(b:List GSession)(a:List GPlan)(c:List GRun)(d e v3:Int)(f:GPlan)(g:(decide (v3<(a.length:Int)))=true)(h:ak a v3=some f)(i:ab.sm f.f0)(j:(aH f.f0)=true)(l:(decide (v3>(0:Int)))=false)(m:(ag f.f2 f.f0.f2 (68374080:Int))=true)(n:(ag f.f3 f.f0.f2 (68374079:Int))=true)(o:ab.sm (GBoard.mk b a c d e))(p:(decide ((aO (GBoard.mk b a c d e) f.f0.f0)>(2:Int)))=false):bn (aT q0 b a c d e v3) .normal (aT q0 b a c d e (inc v3)):=
 RP [V5 (a.length:Int),.b true,.row ((VL q0 q0) f),rT,.b false,rT,rT,.ret [VX (aO (GBoard.mk b a c d e) f.f0.f0)],.b false] (ALn a (VL q0 q0)<|AC g<|AR (VL q0 q0) h<|AV (ψ:=fun k=>E.C k 57 [.agg (VK .far q0 f.f0)]=some [VY true]) (VF (iT f.f0 i) (by rw[j]))<|AC l<|AD (VH (ae f.f2 f.f0.f2 68374080) m)<|AD (VH (ae f.f3 f.f0.f2 68374079) n)<|AV (ψ:=fun k=>E.C k 31 [.agg (VI .far q0 (GBoard.mk b a c d e)),V4 f.f0.f0]=some [VX (aO (GBoard.mk b a c d e) f.f0.f0)]) (gY (GBoard.mk b a c d e) f.f0.f0 o)<|AC p<|AN)
theorem ES {q0:Kd}(c:List GSession)(a:List GPlan)(d:List GRun)(e f v3:Int)(b:GPlan)(g:(decide (v3<(a.length:Int)))=true)(h:ak a v3=some b)(i:ab.sm b.f0)(j:(aH b.f0)=true)(l:(decide (v3>(0:Int)))=false)(m:(ag b.f2 b.f0.f2 (68374080:Int))=true)(n:(ag b.f3 b.f0.f2 (68374079:Int))=false):bn (aT q0 c a d e f v3) .ret (bf q0 false):=
 RP [V5 (a.length:Int),.b true,.row ((VL q0 q0) b),rT,.b false,rT,rF] (ALn a (VL q0 q0)<|AC g<|AR (VL q0 q0) h<|AV (ψ:=fun k=>E.C k 57 [.agg (VK .far q0 b.f0)]=some [VY true]) (VF (iT b.f0 i) (by rw[j]))<|AC l<|AD (VH (ae b.f2 b.f0.f2 68374080) m)<|AD (VH (ae b.f3 b.f0.f2 68374079) n)<|AN)
theorem ET {q0:Kd}(c:List GSession)(a:List GPlan)(d:List GRun)(e f v3:Int)(b:GPlan)(g:(decide (v3<(a.length:Int)))=true)(h:ak a v3=some b)(i:ab.sm b.f0)(j:(aH b.f0)=true)(l:(decide (v3>(0:Int)))=false)(m:(ag b.f2 b.f0.f2 (68374080:Int))=false):bn (aT q0 c a d e f v3) .ret (bf q0 false):=
 RP [V5 (a.length:Int),.b true,.row ((VL q0 q0) b),rT,.b false,rF] (ALn a (VL q0 q0)<|AC g<|AR (VL q0 q0) h<|AV (ψ:=fun k=>E.C k 57 [.agg (VK .far q0 b.f0)]=some [VY true]) (VF (iT b.f0 i) (by rw[j]))<|AC l<|AD (VH (ae b.f2 b.f0.f2 68374080) m)<|AN)
theorem EU {q0:Kd}(c:List GSession)(a:List GPlan)(d:List GRun)(e f v3:Int)(b:GPlan)(g:(decide (v3<(a.length:Int)))=true)(h:ak a v3=some b)(i:ab.sm b.f0)(j:(aH b.f0)=false):bn (aT q0 c a d e f v3) .ret (bf q0 false):=
 RP [V5 (a.length:Int),.b true,.row ((VL q0 q0) b),rF] (ALn a (VL q0 q0)<|AC g<|AR (VL q0 q0) h<|AV (ψ:=fun k=>E.C k 57 [.agg (VK .far q0 b.f0)]=some [VY false]) (VF (iT b.f0 i) (by rw[j]))<|AN)
theorem Dd {q0:Kd}(b:List GSession)(a:List GPlan)(c:List GRun)(d e v3:Int)(f:(decide (v3<(a.length:Int)))=false):bn (aT q0 b a c d e v3) (.exit 0) (mu q0 b a c d e):=
 RP [V5 (a.length:Int),.b false] (ALn a (VL q0 q0)<|AC f<|AN)
end
end Go.Proofs.YtjikhkndmohepaaGreatDoor.Am
