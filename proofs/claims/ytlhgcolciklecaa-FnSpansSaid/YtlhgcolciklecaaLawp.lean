/- The law of FnSpans, a part. -/
import Derived.Test.YtlhgcolciklecaaDraws
import Derived.Test.YtlhgcolciklecaaSpans
namespace Go.Proofs.Ytlhgcolciklecaa.Am
open Go
set_option linter.unusedVariables false
set_option linter.unusedSimpArgs false
section
open Go.Proofs Classical
set_option maxRecDepth 100000
inductive mO where|ret (v2:Bool)|x2
def b7 (a b c d e:List Int)(v4 v6:Int)(v7:List GSpan)(v8:List Int)(f:List GSpan)(g:Int):US:=stL 171 [(3,.box () [BN 1 (a.map etI),BN 1 (b.map etI),BN 1 (c.map etI),BN 1 (d.map etI),BN 1 (e.map etI)]),(4,BI v4),(6,BI v6),(7,.one (BN 2 (v7.map BE))),(8,.one (BN 1 (v8.map etI))),(13,.one (BN 2 (f.map BE))),(14,BI g)]
def fy (a:Bool):US:=stL 171 [(2,BJ a)]
def cQ (a b c d e:List Int)(v4 v6:Int)(v7:List GSpan)(v8:List Int)(f:List GSpan):US:=stL 171 [(3,.box () [BN 1 (a.map etI),BN 1 (b.map etI),BN 1 (c.map etI),BN 1 (d.map etI),BN 1 (e.map etI)]),(4,BI v4),(6,BI v6),(7,.one (BN 2 (v7.map BE))),(8,.one (BN 1 (v8.map etI))),(13,.one (BN 2 (f.map BE)))]
abbrev es:US→Exit→US→Prop:=Round E 3 (aI Try.f3 1)
def sH (a b c d e:List Int)(v4 v6:Int)(v7:List GSpan)(v8:List Int)(f:List GSpan)(g:Int):mO→Prop| .ret h=>Loops E 3 (aI Try.f3 1) (b7 a b c d e v4 v6 v7 v8 f g) .ret (fy h)| .x2=>Loops E 3 (aI Try.f3 1) (b7 a b c d e v4 v6 v7 v8 f g) (.exit 2) (cQ a b c d e v4 v6 v7 v8 f)
theorem pR (c d e f g:List Int)(v4 v6:Int)(v7:List GSpan)(v8:List Int)(a:List GSpan)(b:Int)(h:GSpan)(i:(decide (b<(a.length:Int)))=true)(j:bd a b=some h)(l:v8.length≤1050000)(m:(aD v8 h.f0)=true):es (b7 c d e f g v4 v6 v7 v8 a b) .ret (fy false):=
 RP [BL (a.length:Int),.b true,.row (BE h),rT] (ALn a BE<|AC i<|AG BE j<|AV (ψ:=fun k=>E.C k 14 [.one (BO 1 (((v8.map etI).drop 0).take (v8.map etI).length)),BI h.f0]=some [BG true]) (BA (by simp only[Cv,CE]) (Bz (wo v8 h.f0 l) (by rw[m])))<|AN)
theorem pS (c d e f g:List Int)(v4 v6:Int)(v7:List GSpan)(v8:List Int)(a:List GSpan)(b:Int)(h:GSpan)(i:(decide (b<(a.length:Int)))=true)(j:bd a b=some h)(l:v8.length≤1050000)(m:(aD v8 h.f0)=false):es (b7 c d e f g v4 v6 v7 v8 a b) .normal (b7 c d e f g v4 v6 v7 v8 a (inc b)):=
 RP [BL (a.length:Int),.b true,.row (BE h),rF] (ALn a BE<|AC i<|AG BE j<|AV (ψ:=fun k=>E.C k 14 [.one (BO 1 (((v8.map etI).drop 0).take (v8.map etI).length)),BI h.f0]=some [BG false]) (BA (by simp only[Cv,CE]) (Bz (wo v8 h.f0 l) (by rw[m])))<|AN)
theorem pT (b c d e f:List Int)(v4 v6:Int)(v7:List GSpan)(v8:List Int)(a:List GSpan)(g:Int)(h:(decide (g<(a.length:Int)))=false):es (b7 b c d e f v4 v6 v7 v8 a g) (.exit 2) (cQ b c d e f v4 v6 v7 v8 a):=
 RP [BL (a.length:Int),.b false] (ALn a BE<|AC h<|AN)
noncomputable def dB (v8:List Int):List GSpan→Nat→Option mO|[],i=>some (.x2)|hd::rest,i=>if v8.length≤1050000 then cond (aD v8 hd.f0) (some (.ret false)) (dB v8 rest (i+1))else none
theorem sF (a b c d e:List Int)(v4 v6:Int)(v7:List GSpan)(v8:List Int)(f:List GSpan)(rest:List GSpan):∀(i:Nat) ,(f).drop i=rest→f.length≤9223372036854775807→Ans (dB v8 rest i) (sH a b c d e v4 v6 v7 v8 f (i:Int)):=by
 induction rest with
 |nil =>intro i g h;have hb:=c9 g;unfold dB;exact Bt (Bv (show es (b7 a b c d e v4 v6 v7 v8 f (i:Int)) (.exit 2) (cQ a b c d e v4 v6 v7 v8 f)from pT a b c d e v4 v6 v7 v8 f (i:Int) hb))
 |cons hd rest n =>
  intro i g h;have hb:=cy g;have o:=cz g h;have j:=bu g;have k:=cI g;unfold dB;apply By;intro l;apply Bw<;>intro m
  ·exact Bt (Bv (show es (b7 a b c d e v4 v6 v7 v8 f (i:Int)) .ret (fy false)from pR a b c d e v4 v6 v7 v8 f (i:Int) hd hb k l m))
  ·exact(n (i+1) j h).mono fun y p=>by have r:es (b7 a b c d e v4 v6 v7 v8 f (i:Int)) .normal (b7 a b c d e v4 v6 v7 v8 f (inc (i:Int))):=pS a b c d e v4 v6 v7 v8 f (i:Int) hd hb k l m;rw[o]at r;cases y<;>exact Bu r p
inductive mN where|ret (v2:Bool)|x0 (v8:List Int)
def ar (a b c d e:List Int)(v4:Int)(v5:List Int)(v6:Int)(v7:List GSpan)(v8:List Int)(v9:Int):US:=stL 171 [(3,.box () [BN 1 (a.map etI),BN 1 (b.map etI),BN 1 (c.map etI),BN 1 (d.map etI),BN 1 (e.map etI)]),(4,BI v4),(5,.one (BN 1 (v5.map etI))),(6,BI v6),(7,.one (BN 2 (v7.map BE))),(8,.one (BN 1 (v8.map etI))),(9,BI v9)]
def aT (a:Bool):US:=stL 171 [(2,BJ a)]
def co (a b c d e:List Int)(v4 v6:Int)(v7:List GSpan)(f:List Int):US:=stL 171 [(3,.box () [BN 1 (a.map etI),BN 1 (b.map etI),BN 1 (c.map etI),BN 1 (d.map etI),BN 1 (e.map etI)]),(4,BI v4),(6,BI v6),(7,.one (BN 2 (v7.map BE))),(8,.one (BN 1 (f.map etI)))]
abbrev aH:US→Exit→US→Prop:=Round E 3 (aI Try.f3 0)
def sG (a b c d e:List Int)(v4:Int)(v5:List Int)(v6:Int)(v7:List GSpan)(v8:List Int)(v9:Int):mN→Prop| .ret f=>Loops E 3 (aI Try.f3 0) (ar a b c d e v4 v5 v6 v7 v8 v9) .ret (aT f)| .x0 g=>Loops E 3 (aI Try.f3 0) (ar a b c d e v4 v5 v6 v7 v8 v9) (.exit 0) (co a b c d e v4 v6 v7 g)
end
end Go.Proofs.Ytlhgcolciklecaa.Am
