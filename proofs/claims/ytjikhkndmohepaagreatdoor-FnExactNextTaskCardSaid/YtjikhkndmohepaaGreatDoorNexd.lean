/- What is next, a part. -/
import Derived.Test.YtjikhkndmohepaaGreatDoorBoard
namespace Go.Proofs.YtjikhkndmohepaaGreatDoor.Am
open Go
set_option linter.unusedVariables false
set_option linter.unusedSimpArgs false
section
open Go.Proofs Classical
set_option maxRecDepth 100000
theorem HM {q0:Kd}(v1:Int)(v2_0:List GSession)(v2_1:List GPlan)(v2_2:List GRun)(v2_3 v2_4:Int)(v6_0:Y9)(v6_1 v6_2 v6_3:Int)(v6_4:List GState)(b c:Y9)(d e:Int)(f:Bool)(a:List GTask)(i:List Int)(j h g:Int)(g1:GTask)(l:(decide (h<j))=true)(m:ak i h=some g)(n:ak a g=some g1)(o:ab.sm (GBoard.mk v2_0 v2_1 v2_2 v2_3 v2_4))(p:ab.sm (GDag.mk b c d e f a))(q:aH (GDag.mk b c d e f a)=true)(r:(GRun.mk v6_0 (GSpan.mk v6_1 v6_2) v6_3 v6_4).f3.length=(GDag.mk b c d e f a).f5.length)(s:0≤g∧g<((GDag.mk b c d e f a).f5.length:Int))(t:(jp (GDag.mk b c d e f a) (GRun.mk v6_0 (GSpan.mk v6_1 v6_2) v6_3 v6_4) g (bS (GBoard.mk v2_0 v2_1 v2_2 v2_3 v2_4) v1 g) v2_3)=false):iX (di q0 v1 v2_0 v2_1 v2_2 v2_3 v2_4 v6_0 v6_1 v6_2 v6_3 v6_4 b c d e f a i j h) .normal (di q0 v1 v2_0 v2_1 v2_2 v2_3 v2_4 v6_0 v6_1 v6_2 v6_3 v6_4 b c d e f a i j (inc h)):=
 RP [.b true,.row (etI g),.row ((VQ q0) g1),.ret [VY (bS (GBoard.mk v2_0 v2_1 v2_2 v2_3 v2_4) v1 g)],rF] (AC l<|AG etI m<|AR (VQ q0) n<|AV (ψ:=fun k=>E.C k 51 [.agg (VI .far q0 (GBoard.mk v2_0 v2_1 v2_2 v2_3 v2_4)),V2 v1,V2 g]=some [VY (bS (GBoard.mk v2_0 v2_1 v2_2 v2_3 v2_4) v1 g)]) (xE (GBoard.mk v2_0 v2_1 v2_2 v2_3 v2_4) v1 g o)<|AV (ψ:=fun k=>E.C k 50 [.agg (VK .far q0 (GDag.mk b c d e f a)),.agg (VM .far (GRun.mk v6_0 (GSpan.mk v6_1 v6_2) v6_3 v6_4)),V2 g,V3 (bS (GBoard.mk v2_0 v2_1 v2_2 v2_3 v2_4) v1 g),V2 v2_3]=some [VY false]) (VF (zH (GDag.mk b c d e f a) (GRun.mk v6_0 (GSpan.mk v6_1 v6_2) v6_3 v6_4) g (bS (GBoard.mk v2_0 v2_1 v2_2 v2_3 v2_4) v1 g) v2_3 p q r s) (by rw[t]))<|AN)
theorem HN {q0:Kd}(v1:Int)(v2_0:List GSession)(v2_1:List GPlan)(v2_2:List GRun)(v2_3 v2_4:Int)(v6_0:Y9)(v6_1 v6_2 v6_3:Int)(v6_4:List GState)(a b:Y9)(c d:Int)(e:Bool)(f:List GTask)(i:List Int)(g h:Int)(j:(decide (h<g))=false):iX (di q0 v1 v2_0 v2_1 v2_2 v2_3 v2_4 v6_0 v6_1 v6_2 v6_3 v6_4 a b c d e f i g h) (.exit 0) (oE q0):=
 RP [.b false] (AC j<|AN)
end
end Go.Proofs.YtjikhkndmohepaaGreatDoor.Am
