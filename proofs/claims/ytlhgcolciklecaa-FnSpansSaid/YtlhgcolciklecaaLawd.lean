/- The law of FnSpans, a part. -/
import Derived.Test.YtlhgcolciklecaaLawp
namespace Go.Proofs.Ytlhgcolciklecaa.Am
open Go
set_option linter.unusedVariables false
set_option linter.unusedSimpArgs false
section
open Go.Proofs Classical
set_option maxRecDepth 100000
theorem pQ (a b c d e:List Int)(v4:Int)(v5:List Int)(v6:Int)(v7:List GSpan)(v8:List Int)(v9:Int)(f:GSpan)(h:(decide (v9<(v7.length:Int)))=true)(i:bd v7 v9=some f)(g:av.sm (GCron.mk a b c d e))(j:(400:Int)=400)(k:(c8 (GCron.mk a b c d e) f.f0)=false):aH (ar a b c d e v4 v5 v6 v7 v8 v9) .ret (aT false):=
 RP [BL (v7.length:Int),.b true,.row (BE f),.ret [BF ((aj (GCron.mk a b c d e) (inc f.f0) 400).1),BG ((aj (GCron.mk a b c d e) (inc f.f0) 400).2)],rF] (ALn v7 BE<|AC h<|AG BE i<|AD (g9 (GCron.mk a b c d e) (inc f.f0) 400 g j)<|AD (BB (dp (GCron.mk a b c d e) f.f0 g) k)<|AN)
theorem oW (a b c d e:List Int)(v4:Int)(v5:List Int)(v6:Int)(v7:List GSpan)(v8:List Int)(v9:Int)(f:(decide (v9<(v7.length:Int)))=false):aH (ar a b c d e v4 v5 v6 v7 v8 v9) (.exit 0) (co a b c d e v4 v6 v7 v8):=
 RP [BL (v7.length:Int),.b false] (ALn v7 BE<|AC f<|AN)
end
end Go.Proofs.Ytlhgcolciklecaa.Am
