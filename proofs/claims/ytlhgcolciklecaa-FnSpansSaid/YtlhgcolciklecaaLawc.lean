/- The law of FnSpans, a part. -/
import Derived.Test.YtlhgcolciklecaaLawp
namespace Go.Proofs.Ytlhgcolciklecaa.Am
open Go
set_option linter.unusedVariables false
set_option linter.unusedSimpArgs false
section
open Go.Proofs Classical
set_option maxRecDepth 100000
theorem pN (a b c d e:List Int)(v4:Int)(v5:List Int)(v6:Int)(v7:List GSpan)(v8:List Int)(v9:Int)(f:GSpan)(g:Int)(l:(decide (v9<(v7.length:Int)))=true)(m:bd v7 v9=some f)(k:av.sm (GCron.mk a b c d e))(n:(400:Int)=400)(o:((aj (GCron.mk a b c d e) (inc f.f0) 400).2)=true)(p:(c8 (GCron.mk a b c d e) f.f0)=true)(q:(((aj (GCron.mk a b c d e) (inc f.f0) 400).1) != f.f1)=false)(r:(decide (f.f1>v6))=false)(s:(decide (f.f0<v4))=false)(t:(decide (v9>(0:Int)))=false)(h:bd v5 (IntKind.wrap .i64 ((1:Int)+(Int.tmod v9 8)))=some g)(i:((Int.tmod g (2:Int))==(0:Int))=true)(j:(v8.length+([f.f0]).length)*8≤140737488355328∧v8.length+([f.f0]).length≤4611686018427387904):aH (ar a b c d e v4 v5 v6 v7 v8 v9) .normal (ar a b c d e v4 v5 v6 v7 (v8++([f.f0])) (inc v9)):=
 RP [BL (v7.length:Int),.b true,.row (BE f),.ret [BF ((aj (GCron.mk a b c d e) (inc f.f0) 400).1),BG true],rT,.b false,.b false,.b false,.b false,.row (etI g),.no,.b true,.rows ((v8++([f.f0])).map etI)] (ALn v7 BE<|AC l<|AG BE m<|AD (be (GCron.mk a b c d e) (inc f.f0) 400 k n o)<|AD (BB (dp (GCron.mk a b c d e) f.f0 k) p)<|AC q<|AC r<|AC s<|AC t<|AG etI h<|AC i<|AAp etI (fun _=>rfl) j<|AN)
theorem pO (a b c d e:List Int)(v4:Int)(v5:List Int)(v6:Int)(v7:List GSpan)(v8:List Int)(v9:Int)(f:GSpan)(g:Int)(k:(decide (v9<(v7.length:Int)))=true)(l:bd v7 v9=some f)(j:av.sm (GCron.mk a b c d e))(m:(400:Int)=400)(n:((aj (GCron.mk a b c d e) (inc f.f0) 400).2)=true)(o:(c8 (GCron.mk a b c d e) f.f0)=true)(p:(((aj (GCron.mk a b c d e) (inc f.f0) 400).1) != f.f1)=false)(q:(decide (f.f1>v6))=false)(r:(decide (f.f0<v4))=false)(s:(decide (v9>(0:Int)))=false)(h:bd v5 (IntKind.wrap .i64 ((1:Int)+(Int.tmod v9 8)))=some g)(i:((Int.tmod g (2:Int))==(0:Int))=false):aH (ar a b c d e v4 v5 v6 v7 v8 v9) .normal (ar a b c d e v4 v5 v6 v7 v8 (inc v9)):=
 RP [BL (v7.length:Int),.b true,.row (BE f),.ret [BF ((aj (GCron.mk a b c d e) (inc f.f0) 400).1),BG true],rT,.b false,.b false,.b false,.b false,.row (etI g),.no,.b false] (ALn v7 BE<|AC k<|AG BE l<|AD (be (GCron.mk a b c d e) (inc f.f0) 400 j m n)<|AD (BB (dp (GCron.mk a b c d e) f.f0 j) o)<|AC p<|AC q<|AC r<|AC s<|AG etI h<|AC i<|AN)
theorem pP (a b c d e:List Int)(v4:Int)(v5:List Int)(v6:Int)(v7:List GSpan)(v8:List Int)(v9:Int)(f:GSpan)(h:(decide (v9<(v7.length:Int)))=true)(i:bd v7 v9=some f)(g:av.sm (GCron.mk a b c d e))(j:(400:Int)=400)(k:((aj (GCron.mk a b c d e) (inc f.f0) 400).2)=false)(l:(c8 (GCron.mk a b c d e) f.f0)=true):aH (ar a b c d e v4 v5 v6 v7 v8 v9) .ret (aT false):=
 RP [BL (v7.length:Int),.b true,.row (BE f),.ret [BF ((aj (GCron.mk a b c d e) (inc f.f0) 400).1),BG false],rT] (ALn v7 BE<|AC h<|AG BE i<|AD (be (GCron.mk a b c d e) (inc f.f0) 400 g j k)<|AD (BB (dp (GCron.mk a b c d e) f.f0 g) l)<|AN)
end
end Go.Proofs.Ytlhgcolciklecaa.Am
