/- Right runs of a board, a part. -/
import Derived.Test.YtoanlngmbcnglaaGreatDoorRuna
namespace Go.Proofs.YtoanlngmbcnglaaGreatDoor.Am
open Go
set_option linter.unusedVariables false
set_option linter.unusedSimpArgs false
section
open Go.Proofs Classical
set_option maxRecDepth 100000
theorem E8 {q0:Kd}(b:List GSession)(c:List GPlan)(a:List GRun)(d e:Int)(v3:List Int)(v4:Int)(f:GRun)(g:(decide (v4<(a.length:Int)))=true)(h:ak a v4=some f)(i:ac.sm (GBoard.mk b c a d e))(j:(decide ((aF (GBoard.mk b c a d e) f.f0)<(0:Int)))=true):bo (aU q0 b c a d e v3 v4) .ret (bh q0 false):=
 RP [T8 (a.length:Int),.b true,.row ((GRun.t q0) f),.ret [T2 (aF (GBoard.mk b c a d e) f.f0)],.b true] (ALn a (GRun.t q0)<|AC g<|AR (GRun.t q0) h<|AV (ψ:=fun k=>E.C k 36 [.agg (GBoard.t .far q0 (GBoard.mk b c a d e)),T7 f.f0]=some [T2 (aF (GBoard.mk b c a d e) f.f0)]) (fp (GBoard.mk b c a d e) f.f0 i)<|AC j<|AN)
theorem E9 {q0:Kd}(c:List GSession)(b:List GPlan)(a:List GRun)(d e:Int)(v3:List Int)(v4:Int)(f g1:GRun)(g:GPlan)(l:(decide (v4<(a.length:Int)))=true)(m:ak a v4=some f)(n:ac.sm (GBoard.mk c b a d e))(o:(decide ((aF (GBoard.mk c b a d e) f.f0)<(0:Int)))=false)(p:(decide (v4>(0:Int)))=true)(q:ak a (IntKind.wrap .i64 (v4-(1:Int)))=some g1)(r:(ahead g1 f)=true)(j:ak b (aF (GBoard.mk c b a d e) f.f0)=some g)(s:ac.sm g.f0)(u:aO g.f0=true)(h:(bT g.f0 f)=true)(i:(decide (f.f1.f0<g.f3))=true):bo (aU q0 c b a d e v3 v4) .ret (bh q0 false):=
 RP [T8 (a.length:Int),.b true,.row ((GRun.t q0) f),.ret [T2 (aF (GBoard.mk c b a d e) f.f0)],.b false,.b true,.row ((GRun.t q0) g1),rT,.row ((GPlan.t q0 q0) g),rT,.row ((GPlan.t q0 q0) g),.b true] (ALn a (GRun.t q0)<|AC l<|AR (GRun.t q0) m<|AV (ψ:=fun k=>E.C k 36 [.agg (GBoard.t .far q0 (GBoard.mk c b a d e)),T7 f.f0]=some [T2 (aF (GBoard.mk c b a d e) f.f0)]) (fp (GBoard.mk c b a d e) f.f0 n)<|AC o<|AC p<|AR (GRun.t q0) q<|AD (T1 (lR g1 f) r)<|AR (GPlan.t q0 q0) j<|AV (ψ:=fun k=>E.C k 38 [.agg (GDag.t .far q0 g.f0),.agg (GRun.t .far f)]=some [T3 true]) (TZ (jD g.f0 f s u) (by rw[h]))<|AR (GPlan.t q0 q0) j<|AC i<|AN)
theorem Fa {q0:Kd}(c:List GSession)(b:List GPlan)(a:List GRun)(d e:Int)(v3:List Int)(v4:Int)(f g1:GRun)(h:GPlan)(g:Bool)(n:(decide (v4<(a.length:Int)))=true)(o:ak a v4=some f)(p:ac.sm (GBoard.mk c b a d e))(q:(decide ((aF (GBoard.mk c b a d e) f.f0)<(0:Int)))=false)(r:(decide (v4>(0:Int)))=true)(s:ak a (IntKind.wrap .i64 (v4-(1:Int)))=some g1)(u:(ahead g1 f)=true)(m:ak b (aF (GBoard.mk c b a d e) f.f0)=some h)(v:ac.sm h.f0)(w:aO h.f0=true)(i:(bT h.f0 f)=true)(j:(decide (f.f1.f0<h.f3))=false)(l:mj (q0:=q0) c b a d e v3 v4 f.f0 f.f1.f0 f.f1.f1 f.f2 f.f3 0 (.ret g)):bo (aU q0 c b a d e v3 v4) .ret (bh q0 g):=
 RP [T8 (a.length:Int),.b true,.row ((GRun.t q0) f),.ret [T2 (aF (GBoard.mk c b a d e) f.f0)],.b false,.b true,.row ((GRun.t q0) g1),rT,.row ((GPlan.t q0 q0) h),rT,.row ((GPlan.t q0 q0) h),.b false,.lp .ret (fF q0 g)] (ALn a (GRun.t q0)<|AC n<|AR (GRun.t q0) o<|AV (ψ:=fun k=>E.C k 36 [.agg (GBoard.t .far q0 (GBoard.mk c b a d e)),T7 f.f0]=some [T2 (aF (GBoard.mk c b a d e) f.f0)]) (fp (GBoard.mk c b a d e) f.f0 p)<|AC q<|AC r<|AR (GRun.t q0) s<|AD (T1 (lR g1 f) u)<|AR (GPlan.t q0 q0) m<|AV (ψ:=fun k=>E.C k 38 [.agg (GDag.t .far q0 h.f0),.agg (GRun.t .far f)]=some [T3 true]) (TZ (jD h.f0 f v w) (by rw[i]))<|AR (GPlan.t q0 q0) m<|AC j<|AL l<|AN)
end
end Go.Proofs.YtoanlngmbcnglaaGreatDoor.Am
