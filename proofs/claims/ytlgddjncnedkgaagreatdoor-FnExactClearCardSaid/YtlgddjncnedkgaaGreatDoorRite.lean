/- Right runs, a part. -/
import Derived.Test.YtlgddjncnedkgaaGreatDoorRita
namespace Go.Proofs.YtlgddjncnedkgaaGreatDoor.Am
open Go
set_option linter.unusedVariables false
set_option linter.unusedSimpArgs false
section
open Go.Proofs Classical
set_option maxRecDepth 100000
theorem Hz {q0:Kd}(v2_0 v2_1:Zz)(v2_2 v2_3:Int)(v2_4:Bool)(c:List GTask)(d:Zz)(v3_1 v3_2 e:Int)(a:List GState)(v5:Int)(b:GState)(g1:GTask)(f:(decide (v5<(a.length:Int)))=true)(g:ar a v5=some b)(h:(ak b.f0 0 (4:Int))=true)(i:ar c v5=some g1)(j:(ak b.f1 0 (inc g1.f2))=true)(k:(ak b.f2 0 (1000000000:Int))=true)(l:(!((decide (b.f2>(0:Int)))==(b.f0==(1:Int))))=false)(m:(ak b.f3 0 (68374179:Int))=false):aE (av q0 v2_0 v2_1 v2_2 v2_3 v2_4 c d v3_1 v3_2 e a v5) .ret (aN q0 false):=
 RP [Wu (a.length:Int),.b true,.row (Wi b),rT,.row ((Wj q0) g1),rT,rT,.no,.no,.b false,rF] (ALn a Wi<|AC f<|AR Wi g<|AD (V9 (am b.f0 0 4) h)<|AR (Wj q0) i<|AD (V9 (am b.f1 0 (inc g1.f2)) j)<|AD (V9 (am b.f2 0 1000000000) k)<|AC l<|AD (V9 (am b.f3 0 68374179) m)<|AN)
theorem HA {q0:Kd}(v2_0 v2_1:Zz)(v2_2 v2_3:Int)(v2_4:Bool)(b:List GTask)(d:Zz)(v3_1 v3_2 e:Int)(a:List GState)(v5:Int)(c:GState)(g1:GTask)(f:(decide (v5<(a.length:Int)))=true)(g:ar a v5=some c)(h:(ak c.f0 0 (4:Int))=true)(i:ar b v5=some g1)(j:(ak c.f1 0 (inc g1.f2))=true)(k:(ak c.f2 0 (1000000000:Int))=false):aE (av q0 v2_0 v2_1 v2_2 v2_3 v2_4 b d v3_1 v3_2 e a v5) .ret (aN q0 false):=
 RP [Wu (a.length:Int),.b true,.row (Wi c),rT,.row ((Wj q0) g1),rT,rF] (ALn a Wi<|AC f<|AR Wi g<|AD (V9 (am c.f0 0 4) h)<|AR (Wj q0) i<|AD (V9 (am c.f1 0 (inc g1.f2)) j)<|AD (V9 (am c.f2 0 1000000000) k)<|AN)
theorem HB {q0:Kd}(v2_0 v2_1:Zz)(v2_2 v2_3:Int)(v2_4:Bool)(b:List GTask)(d:Zz)(v3_1 v3_2 e:Int)(a:List GState)(v5:Int)(c:GState)(g1:GTask)(f:(decide (v5<(a.length:Int)))=true)(g:ar a v5=some c)(h:(ak c.f0 0 (4:Int))=true)(i:ar b v5=some g1)(j:(ak c.f1 0 (inc g1.f2))=false):aE (av q0 v2_0 v2_1 v2_2 v2_3 v2_4 b d v3_1 v3_2 e a v5) .ret (aN q0 false):=
 RP [Wu (a.length:Int),.b true,.row (Wi c),rT,.row ((Wj q0) g1),rF] (ALn a Wi<|AC f<|AR Wi g<|AD (V9 (am c.f0 0 4) h)<|AR (Wj q0) i<|AD (V9 (am c.f1 0 (inc g1.f2)) j)<|AN)
theorem HC {q0:Kd}(v2_0 v2_1:Zz)(v2_2 v2_3:Int)(v2_4:Bool)(b:List GTask)(c:Zz)(v3_1 v3_2 d:Int)(a:List GState)(v5:Int)(e:GState)(f:(decide (v5<(a.length:Int)))=true)(g:ar a v5=some e)(h:(ak e.f0 0 (4:Int))=false):aE (av q0 v2_0 v2_1 v2_2 v2_3 v2_4 b c v3_1 v3_2 d a v5) .ret (aN q0 false):=
 RP [Wu (a.length:Int),.b true,.row (Wi e),rF] (ALn a Wi<|AC f<|AR Wi g<|AD (V9 (am e.f0 0 4) h)<|AN)
theorem HD {q0:Kd}(v2_0 v2_1:Zz)(v2_2 v2_3:Int)(v2_4:Bool)(b:List GTask)(c:Zz)(v3_1 v3_2 d:Int)(a:List GState)(v5:Int)(e:(decide (v5<(a.length:Int)))=false):aE (av q0 v2_0 v2_1 v2_2 v2_3 v2_4 b c v3_1 v3_2 d a v5) (.exit 0) (py q0):=
 RP [Wu (a.length:Int),.b false] (ALn a Wi<|AC e<|AN)
end
end Go.Proofs.YtlgddjncnedkgaaGreatDoor.Am
