/- Right runs, a part. -/
import Derived.Test.YtjlkcjlcmaoccaaGreatDoorRita
namespace Go.Proofs.YtjlkcjlcmaoccaaGreatDoor.Am
open Go
set_option linter.unusedVariables false
set_option linter.unusedSimpArgs false
section
open Go.Proofs Classical
set_option maxRecDepth 100000
theorem BU {q0:Kd}(v2_0 v2_1:ByteArray)(v2_2 v2_3:Int)(v2_4:Bool)(c:List GTask)(d:ByteArray)(e f g:Int)(a:List GState)(v5:Int)(b:GState)(g1:GTask)(h:(decide (v5<(a.length:Int)))=true)(i:am a v5=some b)(j:(ah b.f0 0 (4:Int))=true)(k:am c v5=some g1)(l:(ah b.f1 0 (inc g1.f2))=true)(m:(ah b.f2 0 (1000000000:Int))=true)(n:(!((decide (b.f2>(0:Int)))==(b.f0==(1:Int))))=false)(o:(ah b.f3 0 (68374179:Int))=false):az (an q0 v2_0 v2_1 v2_2 v2_3 v2_4 c d e f g a v5) .ret (aD q0 false):=
 RP [O3 (a.length:Int),.b true,.row (GState.t b),rT,.row ((GTask.t q0) g1),rT,rT,.no,.no,.b false,rF] (ALn a GState.t<|AC h<|AR GState.t i<|AD (OW (ai b.f0 0 4) j)<|AR (GTask.t q0) k<|AD (OW (ai b.f1 0 (inc g1.f2)) l)<|AD (OW (ai b.f2 0 1000000000) m)<|AC n<|AD (OW (ai b.f3 0 68374179) o)<|AN)
theorem BV {q0:Kd}(v2_0 v2_1:ByteArray)(v2_2 v2_3:Int)(v2_4:Bool)(b:List GTask)(d:ByteArray)(e f g:Int)(a:List GState)(v5:Int)(c:GState)(g1:GTask)(h:(decide (v5<(a.length:Int)))=true)(i:am a v5=some c)(j:(ah c.f0 0 (4:Int))=true)(k:am b v5=some g1)(l:(ah c.f1 0 (inc g1.f2))=true)(m:(ah c.f2 0 (1000000000:Int))=false):az (an q0 v2_0 v2_1 v2_2 v2_3 v2_4 b d e f g a v5) .ret (aD q0 false):=
 RP [O3 (a.length:Int),.b true,.row (GState.t c),rT,.row ((GTask.t q0) g1),rT,rF] (ALn a GState.t<|AC h<|AR GState.t i<|AD (OW (ai c.f0 0 4) j)<|AR (GTask.t q0) k<|AD (OW (ai c.f1 0 (inc g1.f2)) l)<|AD (OW (ai c.f2 0 1000000000) m)<|AN)
theorem BW {q0:Kd}(v2_0 v2_1:ByteArray)(v2_2 v2_3:Int)(v2_4:Bool)(b:List GTask)(d:ByteArray)(e f g:Int)(a:List GState)(v5:Int)(c:GState)(g1:GTask)(h:(decide (v5<(a.length:Int)))=true)(i:am a v5=some c)(j:(ah c.f0 0 (4:Int))=true)(k:am b v5=some g1)(l:(ah c.f1 0 (inc g1.f2))=false):az (an q0 v2_0 v2_1 v2_2 v2_3 v2_4 b d e f g a v5) .ret (aD q0 false):=
 RP [O3 (a.length:Int),.b true,.row (GState.t c),rT,.row ((GTask.t q0) g1),rF] (ALn a GState.t<|AC h<|AR GState.t i<|AD (OW (ai c.f0 0 4) j)<|AR (GTask.t q0) k<|AD (OW (ai c.f1 0 (inc g1.f2)) l)<|AN)
theorem BX {q0:Kd}(v2_0 v2_1:ByteArray)(v2_2 v2_3:Int)(v2_4:Bool)(b:List GTask)(c:ByteArray)(d e f:Int)(a:List GState)(v5:Int)(g:GState)(h:(decide (v5<(a.length:Int)))=true)(i:am a v5=some g)(j:(ah g.f0 0 (4:Int))=false):az (an q0 v2_0 v2_1 v2_2 v2_3 v2_4 b c d e f a v5) .ret (aD q0 false):=
 RP [O3 (a.length:Int),.b true,.row (GState.t g),rF] (ALn a GState.t<|AC h<|AR GState.t i<|AD (OW (ai g.f0 0 4) j)<|AN)
theorem BY {q0:Kd}(v2_0 v2_1:ByteArray)(v2_2 v2_3:Int)(v2_4:Bool)(b:List GTask)(c:ByteArray)(d e f:Int)(a:List GState)(v5:Int)(g:(decide (v5<(a.length:Int)))=false):az (an q0 v2_0 v2_1 v2_2 v2_3 v2_4 b c d e f a v5) (.exit 0) (mT q0):=
 RP [O3 (a.length:Int),.b false] (ALn a GState.t<|AC g<|AN)
end
end Go.Proofs.YtjlkcjlcmaoccaaGreatDoor.Am
