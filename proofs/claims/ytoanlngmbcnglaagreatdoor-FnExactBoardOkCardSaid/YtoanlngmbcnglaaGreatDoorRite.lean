/- Right runs, a part. -/
import Derived.Test.YtoanlngmbcnglaaGreatDoorRita
namespace Go.Proofs.YtoanlngmbcnglaaGreatDoor.Am
open Go
set_option linter.unusedVariables false
set_option linter.unusedSimpArgs false
section
open Go.Proofs Classical
set_option maxRecDepth 100000
theorem E3 {q0:Kd}(v2_0 v2_1:ByteArray)(v2_2 v2_3:Int)(v2_4:Bool)(c:List GTask)(d:ByteArray)(e f g:Int)(a:List GState)(v5:Int)(b:GState)(g1:GTask)(h:(decide (v5<(a.length:Int)))=true)(i:ak a v5=some b)(j:(ae b.f0 0 (4:Int))=true)(k:ak c v5=some g1)(l:(ae b.f1 0 (inc g1.f2))=true)(m:(ae b.f2 0 (1000000000:Int))=true)(n:(!((decide (b.f2>(0:Int)))==(b.f0==(1:Int))))=false)(o:(ae b.f3 0 (68374179:Int))=false):ax (ao q0 v2_0 v2_1 v2_2 v2_3 v2_4 c d e f g a v5) .ret (aH q0 false):=
 RP [T8 (a.length:Int),.b true,.row (GState.t b),rT,.row ((GTask.t q0) g1),rT,rT,.no,.no,.b false,rF] (ALn a GState.t<|AC h<|AR GState.t i<|AD (T1 (ag b.f0 0 4) j)<|AR (GTask.t q0) k<|AD (T1 (ag b.f1 0 (inc g1.f2)) l)<|AD (T1 (ag b.f2 0 1000000000) m)<|AC n<|AD (T1 (ag b.f3 0 68374179) o)<|AN)
theorem E4 {q0:Kd}(v2_0 v2_1:ByteArray)(v2_2 v2_3:Int)(v2_4:Bool)(b:List GTask)(d:ByteArray)(e f g:Int)(a:List GState)(v5:Int)(c:GState)(g1:GTask)(h:(decide (v5<(a.length:Int)))=true)(i:ak a v5=some c)(j:(ae c.f0 0 (4:Int))=true)(k:ak b v5=some g1)(l:(ae c.f1 0 (inc g1.f2))=true)(m:(ae c.f2 0 (1000000000:Int))=false):ax (ao q0 v2_0 v2_1 v2_2 v2_3 v2_4 b d e f g a v5) .ret (aH q0 false):=
 RP [T8 (a.length:Int),.b true,.row (GState.t c),rT,.row ((GTask.t q0) g1),rT,rF] (ALn a GState.t<|AC h<|AR GState.t i<|AD (T1 (ag c.f0 0 4) j)<|AR (GTask.t q0) k<|AD (T1 (ag c.f1 0 (inc g1.f2)) l)<|AD (T1 (ag c.f2 0 1000000000) m)<|AN)
theorem E5 {q0:Kd}(v2_0 v2_1:ByteArray)(v2_2 v2_3:Int)(v2_4:Bool)(b:List GTask)(d:ByteArray)(e f g:Int)(a:List GState)(v5:Int)(c:GState)(g1:GTask)(h:(decide (v5<(a.length:Int)))=true)(i:ak a v5=some c)(j:(ae c.f0 0 (4:Int))=true)(k:ak b v5=some g1)(l:(ae c.f1 0 (inc g1.f2))=false):ax (ao q0 v2_0 v2_1 v2_2 v2_3 v2_4 b d e f g a v5) .ret (aH q0 false):=
 RP [T8 (a.length:Int),.b true,.row (GState.t c),rT,.row ((GTask.t q0) g1),rF] (ALn a GState.t<|AC h<|AR GState.t i<|AD (T1 (ag c.f0 0 4) j)<|AR (GTask.t q0) k<|AD (T1 (ag c.f1 0 (inc g1.f2)) l)<|AN)
theorem E6 {q0:Kd}(v2_0 v2_1:ByteArray)(v2_2 v2_3:Int)(v2_4:Bool)(b:List GTask)(c:ByteArray)(d e f:Int)(a:List GState)(v5:Int)(g:GState)(h:(decide (v5<(a.length:Int)))=true)(i:ak a v5=some g)(j:(ae g.f0 0 (4:Int))=false):ax (ao q0 v2_0 v2_1 v2_2 v2_3 v2_4 b c d e f a v5) .ret (aH q0 false):=
 RP [T8 (a.length:Int),.b true,.row (GState.t g),rF] (ALn a GState.t<|AC h<|AR GState.t i<|AD (T1 (ag g.f0 0 4) j)<|AN)
theorem E7 {q0:Kd}(v2_0 v2_1:ByteArray)(v2_2 v2_3:Int)(v2_4:Bool)(b:List GTask)(c:ByteArray)(d e f:Int)(a:List GState)(v5:Int)(g:(decide (v5<(a.length:Int)))=false):ax (ao q0 v2_0 v2_1 v2_2 v2_3 v2_4 b c d e f a v5) (.exit 0) (of q0):=
 RP [T8 (a.length:Int),.b false] (ALn a GState.t<|AC g<|AN)
end
end Go.Proofs.YtoanlngmbcnglaaGreatDoor.Am
