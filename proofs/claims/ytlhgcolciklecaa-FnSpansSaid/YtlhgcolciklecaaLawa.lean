/- The law of FnSpans, a part. -/
import Derived.Test.YtlhgcolciklecaaLawp
namespace Go.Proofs.Ytlhgcolciklecaa.Am
open Go
set_option linter.unusedVariables false
set_option linter.unusedSimpArgs false
section
open Go.Proofs Classical
set_option maxRecDepth 100000
theorem pH (a b c d e:List Int)(v4:Int)(v5:List Int)(v6:Int)(v7:List GSpan)(v8:List Int)(v9:Int)(f:GSpan)(h:(decide (v9<(v7.length:Int)))=true)(i:bd v7 v9=some f)(g:av.sm (GCron.mk a b c d e))(j:(400:Int)=400)(k:((aj (GCron.mk a b c d e) (inc f.f0) 400).2)=true)(l:(c8 (GCron.mk a b c d e) f.f0)=true)(m:(((aj (GCron.mk a b c d e) (inc f.f0) 400).1) != f.f1)=true):aH (ar a b c d e v4 v5 v6 v7 v8 v9) .ret (aT false):=
 RP [BL (v7.length:Int),.b true,.row (BE f),.ret [BF ((aj (GCron.mk a b c d e) (inc f.f0) 400).1),BG true],rT,.b true] (ALn v7 BE<|AC h<|AG BE i<|AD (be (GCron.mk a b c d e) (inc f.f0) 400 g j k)<|AD (BB (dp (GCron.mk a b c d e) f.f0 g) l)<|AC m<|AN)
theorem pI (a b c d e:List Int)(v4:Int)(v5:List Int)(v6:Int)(v7:List GSpan)(v8:List Int)(v9:Int)(f:GSpan)(h:(decide (v9<(v7.length:Int)))=true)(i:bd v7 v9=some f)(g:av.sm (GCron.mk a b c d e))(j:(400:Int)=400)(k:((aj (GCron.mk a b c d e) (inc f.f0) 400).2)=true)(l:(c8 (GCron.mk a b c d e) f.f0)=true)(m:(((aj (GCron.mk a b c d e) (inc f.f0) 400).1) != f.f1)=false)(n:(decide (f.f1>v6))=true):aH (ar a b c d e v4 v5 v6 v7 v8 v9) .ret (aT false):=
 RP [BL (v7.length:Int),.b true,.row (BE f),.ret [BF ((aj (GCron.mk a b c d e) (inc f.f0) 400).1),BG true],rT,.b false,.b true] (ALn v7 BE<|AC h<|AG BE i<|AD (be (GCron.mk a b c d e) (inc f.f0) 400 g j k)<|AD (BB (dp (GCron.mk a b c d e) f.f0 g) l)<|AC m<|AC n<|AN)
theorem pJ (a b c d e:List Int)(v4:Int)(v5:List Int)(v6:Int)(v7:List GSpan)(v8:List Int)(v9:Int)(f:GSpan)(h:(decide (v9<(v7.length:Int)))=true)(i:bd v7 v9=some f)(g:av.sm (GCron.mk a b c d e))(j:(400:Int)=400)(k:((aj (GCron.mk a b c d e) (inc f.f0) 400).2)=true)(l:(c8 (GCron.mk a b c d e) f.f0)=true)(m:(((aj (GCron.mk a b c d e) (inc f.f0) 400).1) != f.f1)=false)(n:(decide (f.f1>v6))=false)(o:(decide (f.f0<v4))=true):aH (ar a b c d e v4 v5 v6 v7 v8 v9) .ret (aT false):=
 RP [BL (v7.length:Int),.b true,.row (BE f),.ret [BF ((aj (GCron.mk a b c d e) (inc f.f0) 400).1),BG true],rT,.b false,.b false,.b true] (ALn v7 BE<|AC h<|AG BE i<|AD (be (GCron.mk a b c d e) (inc f.f0) 400 g j k)<|AD (BB (dp (GCron.mk a b c d e) f.f0 g) l)<|AC m<|AC n<|AC o<|AN)
end
end Go.Proofs.Ytlhgcolciklecaa.Am
