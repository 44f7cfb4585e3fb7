/- Days and minutes. -/
import Derived.Test.YtlhgcolciklecaaDraws
namespace Go.Proofs.Ytlhgcolciklecaa.Am
open Go
set_option linter.unusedVariables false
set_option linter.unusedSimpArgs false
section
open Go.Proofs Classical
set_option maxRecDepth 100000
noncomputable def j7 (a:Int):Option (Bool):=cond ((Int.tmod a (4:Int))==(0:Int)) (cond ((Int.tmod a 100) != 0) (some (true)) (some ((Int.tmod a (400:Int))==(0:Int)))) (some ((Int.tmod a (400:Int))==(0:Int)))
theorem ta (b:Int):Ans (j7 b) (fun r=>Does E 55 [BI b] [BG r]):=by
 unfold j7;apply Bw<;>intro a
 ·apply Bw<;>intro c
  ·exact Bt (DP Try.f55 [.no,.b true,.no,.b true] (AC a<|AC c<|AN))
  ·exact Bt (DP Try.f55 [.no,.b true,.no,.b false] (AC a<|AC c<|AN))
 ·exact Bt (DP Try.f55 [.no,.b false] (AC a<|AN))
def aF (y:Int):Bool:=(Int.tmod y 4==0)&&(Int.tmod y 100 != 0)||(Int.tmod y 400==0)
theorem md (a:Int):Does E 55 [BI a] [BG (aF a)]:=by exact ta a _ (by unfold j7 aF;cases Int.tmod a 4==0<;>cases Int.tmod a 100 != 0<;>rfl)
noncomputable def jV (a:Int):Option (Bool):=cond ((Int.tmod a (4:Int))==(0:Int)) (cond ((Int.tmod a 100) != 0) (some (true)) (some ((Int.tmod a (400:Int))==(0:Int)))) (some ((Int.tmod a (400:Int))==(0:Int)))
theorem sq (b:Int):Ans (jV b) (fun r=>Does E 57 [BI b] [BG r]):=by
 unfold jV;apply Bw<;>intro a
 ·apply Bw<;>intro c
  ·exact Bt (DP Try.f57 [.no,.b true,.no,.b true] (AC a<|AC c<|AN))
  ·exact Bt (DP Try.f57 [.no,.b true,.no,.b false] (AC a<|AC c<|AN))
 ·exact Bt (DP Try.f57 [.no,.b false] (AC a<|AN))
theorem gZ (a:Int):Does E 57 [BI a] [BG (aF a)]:=by exact sq a _ (by unfold jV aF;cases Int.tmod a 4==0<;>cases Int.tmod a 100 != 0<;>rfl)
noncomputable def eN (b a:Int):Option (Int):=cond (a==(1:Int)) (some (31)) (cond (a==(3:Int)) (some (31)) (cond (a==(5:Int)) (some (31)) (cond (a==(7:Int)) (some (31)) (cond (a==(8:Int)) (some (31)) (cond (a==(10:Int)) (some (31)) (cond (a==(12:Int)) (some (31)) (cond (a==(4:Int)) (some (30)) (cond (a==(6:Int)) (some (30)) (cond (a==(9:Int)) (some (30)) (cond (a==(11:Int)) (some (30)) (cond (a==(2:Int)) (cond (aF b) (some (29)) (some (28))) (some (0)))))))))))))
theorem vN (n o:Int):Ans (eN n o) (fun r=>Does E 52 [BI n,BI o] [BF r]):=by
 unfold eN;apply Bw<;>intro a
 ·exact Bt (DP Try.f52 [.b true] (AC a<|AN))
 ·apply Bw<;>intro b
  ·exact Bt (DP Try.f52 [.b false,.b true] (AC a<|AC b<|AN))
  ·apply Bw<;>intro c
   ·exact Bt (DP Try.f52 [.b false,.b false,.b true] (AC a<|AC b<|AC c<|AN))
   ·apply Bw<;>intro d
    ·exact Bt (DP Try.f52 [.b false,.b false,.b false,.b true] (AC a<|AC b<|AC c<|AC d<|AN))
    ·apply Bw<;>intro e
     ·exact Bt (DP Try.f52 [.b false,.b false,.b false,.b false,.b true] (AC a<|AC b<|AC c<|AC d<|AC e<|AN))
     ·apply Bw<;>intro f
      ·exact Bt (DP Try.f52 [.b false,.b false,.b false,.b false,.b false,.b true] (AC a<|AC b<|AC c<|AC d<|AC e<|AC f<|AN))
      ·apply Bw<;>intro h
       ·exact Bt (DP Try.f52 [.b false,.b false,.b false,.b false,.b false,.b false,.b true] (AC a<|AC b<|AC c<|AC d<|AC e<|AC f<|AC h<|AN))
       ·apply Bw<;>intro i
        ·exact Bt (DP Try.f52 [.b false,.b false,.b false,.b false,.b false,.b false,.b false,.b true] (AC a<|AC b<|AC c<|AC d<|AC e<|AC f<|AC h<|AC i<|AN))
        ·apply Bw<;>intro k
         ·exact Bt (DP Try.f52 [.b false,.b false,.b false,.b false,.b false,.b false,.b false,.b false,.b true] (AC a<|AC b<|AC c<|AC d<|AC e<|AC f<|AC h<|AC i<|AC k<|AN))
         ·apply Bw<;>intro l
          ·exact Bt (DP Try.f52 [.b false,.b false,.b false,.b false,.b false,.b false,.b false,.b false,.b false,.b true] (AC a<|AC b<|AC c<|AC d<|AC e<|AC f<|AC h<|AC i<|AC k<|AC l<|AN))
          ·apply Bw<;>intro g
           ·exact Bt (DP Try.f52 [.b false,.b false,.b false,.b false,.b false,.b false,.b false,.b false,.b false,.b false,.b true] (AC a<|AC b<|AC c<|AC d<|AC e<|AC f<|AC h<|AC i<|AC k<|AC l<|AC g<|AN))
           ·apply Bw<;>intro j
            ·apply Bw<;>intro m
             ·exact Bt (DP Try.f52 [.b false,.b false,.b false,.b false,.b false,.b false,.b false,.b false,.b false,.b false,.b false,.b true,rT] (AC a<|AC b<|AC c<|AC d<|AC e<|AC f<|AC h<|AC i<|AC k<|AC l<|AC g<|AC j<|AD (BB (gZ n) m)<|AN))
             ·exact Bt (DP Try.f52 [.b false,.b false,.b false,.b false,.b false,.b false,.b false,.b false,.b false,.b false,.b false,.b true,rF] (AC a<|AC b<|AC c<|AC d<|AC e<|AC f<|AC h<|AC i<|AC k<|AC l<|AC g<|AC j<|AD (BB (gZ n) m)<|AN))
            ·exact Bt (DP Try.f52 [.b false,.b false,.b false,.b false,.b false,.b false,.b false,.b false,.b false,.b false,.b false,.b false] (AC a<|AC b<|AC c<|AC d<|AC e<|AC f<|AC h<|AC i<|AC k<|AC l<|AC g<|AC j<|AN))
noncomputable def bK (y m:Int):Int:=(eN y m).getD 0
theorem sl (y m:Int):eN y m=some (bK y m):=by refine Tot.getD ?_ _;unfold eN;repeat' (first|exact Tot.some _|apply Tot.cond)
theorem lq (a:Int)(b:Int):Does E 52 [BI a,BI b] [BF (bK a b)]:=by exact vN a b _ (sl a b)
noncomputable def jC (c a:Int):Option (Int):=cond (a8 a 1 12) (cond (a==(2:Int)) (cond (aF c) (some (29)) ((bd ([31,28,31,30,31,30,31,31,30,31,30,31]) (IntKind.wrap .i64 (a-(1:Int)))).bind fun b=>some (b))) ((bd ([31,28,31,30,31,30,31,31,30,31,30,31]) (IntKind.wrap .i64 (a-(1:Int)))).bind fun b=>some (b))) (some (0))
theorem wa (b a:Int):Ans (jC b a) (fun r=>Does E 49 [BI b,BI a] [BF r]):=by
 unfold jC;apply Bw<;>intro c
 ·apply Bw<;>intro e
  ·apply Bw<;>intro d
   ·exact Bt (DP Try.f49 [rT,.b true,rT] (AD (BB (a5 a 1 12) c)<|AC e<|AD (BB (md b) d)<|AN))
   ·apply Bx;intro f g;exact Bt (DP Try.f49 [rT,.b true,rF,.row (etI f)] (AD (BB (a5 a 1 12) c)<|AC e<|AD (BB (md b) d)<|AG etI g<|AN))
  ·apply Bx;intro f d;exact Bt (DP Try.f49 [rT,.b false,.row (etI f)] (AD (BB (a5 a 1 12) c)<|AC e<|AG etI d<|AN))
 ·exact Bt (DP Try.f49 [rF] (AD (BB (a5 a 1 12) c)<|AN))
theorem qm (y:Int)(k:Nat)(h:k<12):bK y ((k:Int)+1)=([31,cond (aF y) 29 28,31,30,31,30,31,31,30,31,30,31]:List Int).getD k 0:=by
 unfold bK eN
 match k,h with
 | 0,_=>rfl
 | 1,_=>show(cond (aF y) (some 29) (some 28):Option Int).getD 0=cond (aF y) 29 28;cases aF y<;>rfl
 | 2,_=>rfl
 | 3,_=>rfl
 | 4,_=>rfl
 | 5,_=>rfl
 | 6,_=>rfl
 | 7,_=>rfl
 | 8,_=>rfl
 | 9,_=>rfl
 | 10,_=>rfl
 | 11,_=>rfl
 |k+12,h=>omega
theorem wx (y m:Int)(h:¬(1≤m∧m≤12)):bK y m=0:=by
 unfold bK eN;have e:∀j:Int,1≤j→j≤12→(m==j)=false:=fun j a b=>DI.2 fun e=>h (by omega)
 simp[e]
theorem s8 (y m:Int):jC y m=some (bK y m):=by
 unfold jC;by_cases q:1≤m∧m≤12
 ·obtain⟨k,rfl⟩:∃k:Nat,m=(k:Int)+1:=⟨(m-1).toNat,by omega⟩
  have c:k<12:=by omega
  rw[qm y k c]
  match k,c with
  | 0,_=>rfl
  | 1,_=>show(cond (aF y) (some 29) (some 28):Option Int)=some (cond (aF y) 29 28);cases aF y<;>rfl
  | 2,_=>rfl
  | 3,_=>rfl
  | 4,_=>rfl
  | 5,_=>rfl
  | 6,_=>rfl
  | 7,_=>rfl
  | 8,_=>rfl
  | 9,_=>rfl
  | 10,_=>rfl
  | 11,_=>rfl
  |k+12,h=>omega
 ·rw[wx y m q];have:a8 m 1 12=false:=by
   unfold a8;by_cases a:m≥1
   ·have:¬m≤12:=fun b=>q ⟨a,b⟩
    simp[a,this]
   ·simp[a]
  rw[this];rfl
theorem ls (a:Int)(b:Int):Does E 49 [BI a,BI b] [BF (bK a b)]:=by exact wa a b _ (s8 a b)
noncomputable def lH (a:Int):Option (Int):=cond (aF a) (some (366)) (some (365))
theorem vP (a:Int):Ans (lH a) (fun r=>Does E 51 [BI a] [BF r]):=by
 unfold lH;apply Bw<;>intro b
 ·exact Bt (DP Try.f51 [rT] (AD (BB (gZ a) b)<|AN))
 ·exact Bt (DP Try.f51 [rF] (AD (BB (gZ a) b)<|AN))
def ek (y:Int):Int:=cond (aF y) 366 365
theorem lr (a:Int):Does E 51 [BI a] [BF (ek a)]:=by exact vP a _ (by unfold lH ek;cases aF a<;>rfl)
noncomputable def i7 (a:Int):Option (Int):=some (IntKind.wrap .i64 ((IntKind.wrap .i64 ((365:Int)*(IntKind.wrap .i64 (a-(1970:Int)))))+(IntKind.wrap .i64 (Int.tdiv (inc (IntKind.wrap .i64 (a-(1970:Int)))) 4))))
theorem uw (a:Int):Ans (i7 a) (fun r=>Does E 48 [BI a] [BF r]):=by unfold i7;exact Bt (DP Try.f48 [] AN)
noncomputable def fi (y:Int):Int:=(i7 y).getD 0
theorem xd (k:Nat)(h:k≤200):fi (1970+(k:Int))=365*(k:Int)+((k:Int)+1)/4:=by
 unfold fi i7;simp only[DF];have a:IntKind.wrap .i64 (1970+(k:Int)-1970)=(k:Int):=by rw[ay _ (by omega) (by omega)];omega
 have b:IntKind.wrap .i64 (365*(k:Int))=365*(k:Int):=ay _ (by omega) (by omega);have c:inc (k:Int)=(k:Int)+1:=fJ _ (by omega) (by omega);have d:IntKind.wrap .i64 (((k:Int)+1).tdiv 4)=((k:Int)+1)/4:=by rw[Cr (by omega)];exact ay _ (by omega) (by omega)
 rw[a,b,c,d];exact ay _ (by omega) (by omega)
theorem vk:(List.range 130).all (fun k=>decide (ek (1970+(k:Int))=365+(((k:Int)+2)/4-((k:Int)+1)/4)))=true:=by decide +kernel
theorem qn (k:Nat)(h:k<130):ek (1970+(k:Int))=365+(((k:Int)+2)/4-((k:Int)+1)/4):=
 DN (BZ.1 vk k (CB.2 h))
theorem kv (a:Int):Does E 48 [BI a] [BF (fi a)]:=by exact uw a _ rfl
noncomputable def mJ (a:Int):Option (Bool):=some (a8 a 0 68374079)
theorem su (a:Int):Ans (mJ a) (fun r=>Does E 44 [BI a] [BG r]):=by unfold mJ;exact Bt (DP Try.f44 [.ret [BG (a8 a 0 68374079)]] (AD (gf a 0 (68374079:Int))<|AN))
def da (x:Int):Bool:=a8 x 0 68374079
theorem cX (a:Int):Does E 44 [BI a] [BG (da a)]:=by exact su a _ rfl
inductive m7 where|x2 (v4 v6:Int)
def it (f a b c d e v4 v5 v6:Int):US:=stL 49 [(0,BI f),(2,.box () [tI a,tI b,tI c,tI d,tI e]),(4,BI v4),(5,BI v5),(6,BI v6)]
def iT (h a b c d e v5 f g:Int):US:=stL 49 [(0,BI h),(2,.box () [tI a,tI b,tI c,tI d,tI e]),(4,BI f),(5,BI v5),(6,BI g)]
abbrev mY:US→Exit→US→Prop:=Round E 38 (aI Try.f38 1)
def s7 (h a b c d e v4 v5 v6:Int):m7→Prop| .x2 f g=>Loops E 38 (aI Try.f38 1) (it h a b c d e v4 v5 v6) (.exit 2) (iT h a b c d e v5 f g)
noncomputable def ey (v5:Int):Nat→Int→Int→Option m7| 0,_,_=>none|n+1,v4,v6=>cond (decide (v4≥(bK v5 v6))) (ey v5 n (IntKind.wrap .i64 (v4-(bK v5 v6))) (inc v6)) (some (.x2 v4 v6))
theorem sZ (f a b c d e v5:Int)(n:Nat):∀(v4 v6:Int),Ans (ey v5 n v4 v6) (s7 f a b c d e v4 v5 v6):=by
 induction n with
 |zero=>intros;exact Ans.none
 |succ n h =>
  intro v4 v6;unfold ey;apply Bw<;>intro g
  ·have r:mY (it f a b c d e v4 v5 v6) .normal (it f a b c d e (IntKind.wrap .i64 (v4-(bK v5 v6))) v5 (inc v6)):=RP [.ret [BF (bK v5 v6)],.b true,.ret [BF (bK v5 v6)]] (AD (ls v5 v6)<|AC g<|AD (ls v5 v6)<|AN);exact(h (IntKind.wrap .i64 (v4-(bK v5 v6))) (inc v6)).mono fun y i=>by cases y<;>exact Bu r i
  ·exact Bt (Bv (show mY (it f a b c d e v4 v5 v6) (.exit 2) (iT f a b c d e v5 v4 v6)from RP [.ret [BF (bK v5 v6)],.b false] (AD (ls v5 v6)<|AC g<|AN)))
inductive mZ where|x0 (v5:Int)
def ir (f a b c d e v4 v5:Int):US:=stL 49 [(0,BI f),(2,.box () [tI a,tI b,tI c,tI d,tI e]),(4,BI v4),(5,BI v5)]
def iS (g a b c d e v4 f:Int):US:=stL 49 [(0,BI g),(2,.box () [tI a,tI b,tI c,tI d,tI e]),(4,BI v4),(5,BI f)]
abbrev mX:US→Exit→US→Prop:=Round E 38 (aI Try.f38 0)
def s6 (g a b c d e v4 v5:Int):mZ→Prop| .x0 f=>Loops E 38 (aI Try.f38 0) (ir g a b c d e v4 v5) (.exit 0) (iS g a b c d e v4 f)
noncomputable def ex (v4:Int):Nat→Int→Option mZ| 0,_=>none|n+1,v5=>cond (decide ((fi (inc v5))≤v4)) (ex v4 n (inc v5)) (some (.x0 v5))
theorem sY (f a b c d e v4:Int)(n:Nat):∀(v5:Int),Ans (ex v4 n v5) (s6 f a b c d e v4 v5):=by
 induction n with
 |zero=>intros;exact Ans.none
 |succ n h =>
  intro v5;unfold ex;apply Bw<;>intro g
  ·have r:mX (ir f a b c d e v4 v5) .normal (ir f a b c d e v4 (inc v5)):=RP [.ret [BF (fi (inc v5))],.b true] (AD (kv (inc v5))<|AC g<|AN);exact(h (inc v5)).mono fun y i=>by cases y<;>exact Bu r i
  ·exact Bt (Bv (show mX (ir f a b c d e v4 v5) (.exit 0) (iS f a b c d e v4 v5)from RP [.ret [BF (fi (inc v5))],.b false] (AD (kv (inc v5))<|AC g<|AN)))
noncomputable def d9 (b:Int):Option (GCivil×Bool):=
  cond (a8 b 0 68374079)
   ((ex (IntKind.wrap .i64 (Int.tdiv b 1440)) 9223372036854775808 (IntKind.wrap .i64 ((1970:Int)+(IntKind.wrap .i64 (Int.tdiv (IntKind.wrap .i64 (Int.tdiv b 1440)) 366))))).bind fun y=>match y with
    | .x0 a=>((ey a 9223372036854775808 (IntKind.wrap .i64 ((IntKind.wrap .i64 (Int.tdiv b 1440))-(fi a))) 1).bind fun y=>match y with
     | .x2 c d=>(some ((GCivil.mk a d (inc c) (IntKind.wrap .i64 (Int.tdiv (Int.tmod b 1440) 60)) (Int.tmod b 60)),true))))
   (some ((GCivil.mk 0 0 0 0 0),false))
theorem uq (x0:Int):Ans (d9 x0) (fun r=>Does E 38 [BI x0] [(true,BC r.1),BG r.2]):=by
 unfold d9;apply Bw<;>intro e
 ·apply Bx;intro y b;replace b:=sY x0 0 0 0 0 0 (IntKind.wrap .i64 (Int.tdiv x0 1440)) 9223372036854775808 (IntKind.wrap .i64 ((1970:Int)+(IntKind.wrap .i64 (Int.tdiv (IntKind.wrap .i64 (Int.tdiv x0 1440)) 366)))) y b;cases y with
  |x0 a =>
   have f:=b;apply Bx;intro y b;replace b:=sZ x0 0 0 0 0 0 a 9223372036854775808 (IntKind.wrap .i64 ((IntKind.wrap .i64 (Int.tdiv x0 1440))-(fi a))) 1 y b;cases y with
   |x2 c d =>have g:=b;exact Bt (DP Try.f38 [rT,.lp (.exit 0) (iS x0 0 0 0 0 0 (IntKind.wrap .i64 (Int.tdiv x0 1440)) a),.ret [BF (fi a)],.lp (.exit 2) (iT x0 0 0 0 0 0 a c d)] (AD (BB (a5 x0 0 68374079) e)<|AL f<|AD (kv a)<|AL g<|AN))
 ·exact Bt (DP Try.f38 [rF] (AD (BB (a5 x0 0 68374079) e)<|AN))
inductive mF where|x2 (v4 v6_1:Int)
def ie (a b c d e v4 v6_0 v6_1 f g h:Int):US:=stL 56 [(2,.box () [tI a,tI b,tI c,tI d,tI e]),(4,BI v4),(6,.box () [tI v6_0,tI v6_1,tI f,tI g,tI h])]
def iI (b c d e f v6_0 g h i j a:Int):US:=stL 56 [(2,.box () [tI b,tI c,tI d,tI e,tI f]),(4,BI j),(6,.box () [tI v6_0,tI a,tI g,tI h,tI i])]
abbrev mD:US→Exit→US→Prop:=Round E 45 (aI Try.f45 1)
def sk (a b c d e v4 v6_0 v6_1 f g h:Int):mF→Prop| .x2 j i=>Loops E 45 (aI Try.f45 1) (ie a b c d e v4 v6_0 v6_1 f g h) (.exit 2) (iI a b c d e v6_0 f g h j i)
noncomputable def eo (v6_0:Int):Nat→Int→Int→Option mF| 0,_,_=>none|n+1,v4,v6_1=>cond (decide (v4≥(bK v6_0 v6_1))) (eo v6_0 n (IntKind.wrap .i64 (v4-(bK v6_0 v6_1))) (inc v6_1)) (some (.x2 v4 v6_1))
theorem sg (a b c d e v6_0 f g h:Int)(n:Nat):∀(v4 v6_1:Int),Ans (eo v6_0 n v4 v6_1) (sk a b c d e v4 v6_0 v6_1 f g h):=by
 induction n with
 |zero=>intros;exact Ans.none
 |succ n j =>
  intro v4 v6_1;unfold eo;apply Bw<;>intro i
  ·have r:mD (ie a b c d e v4 v6_0 v6_1 f g h) .normal (ie a b c d e (IntKind.wrap .i64 (v4-(bK v6_0 v6_1))) v6_0 (inc v6_1) f g h):=RP [.ret [BF (bK v6_0 v6_1)],.b true,.ret [BF (bK v6_0 v6_1)]] (AD (lq v6_0 v6_1)<|AC i<|AD (lq v6_0 v6_1)<|AN);exact(j (IntKind.wrap .i64 (v4-(bK v6_0 v6_1))) (inc v6_1)).mono fun y k=>by cases y<;>exact Bu r k
  ·exact Bt (Bv (show mD (ie a b c d e v4 v6_0 v6_1 f g h) (.exit 2) (iI a b c d e v6_0 f g h v4 v6_1)from RP [.ret [BF (bK v6_0 v6_1)],.b false] (AD (lq v6_0 v6_1)<|AC i<|AN)))
inductive mE where|x0 (v4 v6_0:Int)
def ic (a b c d e v4 v6_0 v6_1 f g h:Int):US:=stL 56 [(2,.box () [tI a,tI b,tI c,tI d,tI e]),(4,BI v4),(6,.box () [tI v6_0,tI v6_1,tI f,tI g,tI h])]
def iH (b c d e f v6_1 g h i j a:Int):US:=stL 56 [(2,.box () [tI b,tI c,tI d,tI e,tI f]),(4,BI j),(6,.box () [tI a,tI v6_1,tI g,tI h,tI i])]
abbrev mC:US→Exit→US→Prop:=Round E 45 (aI Try.f45 0)
def sj (a b c d e v4 v6_0 v6_1 f g h:Int):mE→Prop| .x0 j i=>Loops E 45 (aI Try.f45 0) (ic a b c d e v4 v6_0 v6_1 f g h) (.exit 0) (iH a b c d e v6_1 f g h j i)
noncomputable def en  : Nat→Int→Int→Option mE| 0,_,_=>none|n+1,v4,v6_0=>cond (decide (v4≥(ek v6_0))) (en n (IntKind.wrap .i64 (v4-(ek v6_0))) (inc v6_0)) (some (.x0 v4 v6_0))
theorem sf (a b c d e v6_1 f g h:Int)(n:Nat):∀(v4 v6_0:Int),Ans (en n v4 v6_0) (sj a b c d e v4 v6_0 v6_1 f g h):=by
 induction n with
 |zero=>intros;exact Ans.none
 |succ n j =>
  intro v4 v6_0;unfold en;apply Bw<;>intro i
  ·have r:mC (ic a b c d e v4 v6_0 v6_1 f g h) .normal (ic a b c d e (IntKind.wrap .i64 (v4-(ek v6_0))) (inc v6_0) v6_1 f g h):=RP [.ret [BF (ek v6_0)],.b true,.ret [BF (ek v6_0)]] (AD (lr v6_0)<|AC i<|AD (lr v6_0)<|AN);exact(j (IntKind.wrap .i64 (v4-(ek v6_0))) (inc v6_0)).mono fun y k=>by cases y<;>exact Bu r k
  ·exact Bt (Bv (show mC (ic a b c d e v4 v6_0 v6_1 f g h) (.exit 0) (iH a b c d e v6_1 f g h v4 v6_0)from RP [.ret [BF (ek v6_0)],.b false] (AD (lr v6_0)<|AC i<|AN)))
noncomputable def ff (e:Int):Option (GCivil×Bool):=
  cond (da e)
   ((en 9223372036854775808 (IntKind.wrap .i64 (Int.tdiv e 1440)) 1970).bind fun y=>match y with
    | .x0 c a=>((eo a 9223372036854775808 c 1).bind fun y=>match y with
     | .x2 d b=>(some ((GCivil.mk a b (inc d) (IntKind.wrap .i64 (Int.tdiv (Int.tmod e 1440) 60)) (Int.tmod (Int.tmod e 1440) 60)),true))))
   (some ((GCivil.mk 0 0 0 0 0),false))
theorem t5 (x0:Int):Ans (ff x0) (fun r=>Does E 45 [BI x0] [(true,BC r.1),BG r.2]):=by
 unfold ff;apply Bw<;>intro f
 ·apply Bx;intro y d;replace d:=sf 0 0 0 0 0 1 0 (IntKind.wrap .i64 (Int.tdiv (Int.tmod x0 1440) 60)) (Int.tmod (Int.tmod x0 1440) 60) 9223372036854775808 (IntKind.wrap .i64 (Int.tdiv x0 1440)) 1970 y d;cases y with
  |x0 c a =>
   have g:=d;apply Bx;intro y d;replace d:=sg 0 0 0 0 0 a 0 (IntKind.wrap .i64 (Int.tdiv (Int.tmod x0 1440) 60)) (Int.tmod (Int.tmod x0 1440) 60) 9223372036854775808 c 1 y d;cases y with
   |x2 e b =>have h:=d;exact Bt (DP Try.f45 [rT,.lp (.exit 0) (iH 0 0 0 0 0 1 0 (IntKind.wrap .i64 (Int.tdiv (Int.tmod x0 1440) 60)) (Int.tmod (Int.tmod x0 1440) 60) c a),.lp (.exit 2) (iI 0 0 0 0 0 a 0 (IntKind.wrap .i64 (Int.tdiv (Int.tmod x0 1440) 60)) (Int.tmod (Int.tmod x0 1440) 60) e b)] (AD (BB (cX x0) f)<|AL g<|AL h<|AN))
 ·exact Bt (DP Try.f45 [rF] (AD (BB (cX x0) f)<|AN))
noncomputable def aq (x:Int):GCivil×Bool:=(d9 x).getD (⟨0,0,0,0,0⟩,false)
def bn (k:Nat):Int:=365*(k:Int)+((k:Int)+1)/4
theorem u9 (D:Int)(a:0≤D):∀j:Nat,D<bn j→∃k:Nat,k<j∧bn k≤D∧D<bn (k+1)
 | 0,h=>by simp[bn]at h;omega
 |j+1,h=>by
  by_cases q:D<bn j
  ·obtain⟨k,c,b⟩:=u9 D a j q;exact⟨k,by omega,b⟩
  ·exact⟨j,by omega,by omega,h⟩
theorem zo (D:Int)(k:Nat)(b:k<130)(d:bn k≤D)(f:D<bn (k+1)):∀(m n:Nat)(j:Nat),j+m=k→m<n→ex D n (1970+(j:Int))=some (.x0 (1970+(k:Int)))
 |m,0,j,_,g=>by omega
 |m,n+1,j,a,g=>by
  unfold ex;have e:inc (1970+(j:Int))=1970+((j+1:Nat):Int):=by rw[fJ _ (by omega) (by omega)];omega
  rw[e,xd (j+1) (by omega)];have c:365*((j+1:Nat):Int)+(((j+1:Nat):Int)+1)/4=bn (j+1):=rfl;rw[c]
  match m,a with
  | 0,a =>
   have:j=k:=by omega
   subst this;rw[Cj (by omega)];rfl
  |m+1,a =>
   have:bn (j+1)≤bn k:=by unfold bn;omega
   rw[Cl (by omega)];exact zo D k b d f m n (j+1) (by omega) (by omega)
theorem zg (D:Int)(k:Nat)(b:k<130)(c:bn k≤D)(f:D<bn (k+1))(g:D<100000):∀(m n:Nat)(j:Nat),j+m=k→m<n→en n (D-bn j) (1970+(j:Int))=some (.x0 (D-bn k) (1970+(k:Int)))
 |m,0,j,_,h=>by omega
 |m,n+1,j,a,h=>by
  unfold en;have e:inc (1970+(j:Int))=1970+((j+1:Nat):Int):=by rw[fJ _ (by omega) (by omega)];omega
  have d:ek (1970+(j:Int))=bn (j+1)-bn j:=by rw[qn j (by omega)];unfold bn;omega
  rw[e,d];have i:0≤bn j:=by unfold bn;omega
  match m,a with
  | 0,a =>
   have:j=k:=by omega
   subst this;rw[Cj (by omega)];rfl
  |m+1,a =>
   have:bn (j+1)≤bn k:=by unfold bn;omega
   rw[Cl (by omega),Cs];have w:IntKind.wrap .i64 (D-bn j-(bn (j+1)-bn j))=D-bn (j+1):=by
    have:bn (j+1)≤100000∧0≤bn (j+1):=by unfold bn;omega
    rw[ay _ (by omega) (by omega)];omega
   rw[w];exact zg D k b c f g m n (j+1) (by omega) (by omega)
def p8 (lp:Bool)(k:Nat):Int:=((([31,cond lp 29 28,31,30,31,30,31,31,30,31,30,31]:List Int).drop k).foldr (· + ·) 0)
theorem xj (lp:Bool)(k:Nat)(h:k<12):p8 lp k=([31,cond lp 29 28,31,30,31,30,31,31,30,31,30,31]:List Int).getD k 0+p8 lp (k+1):=by
 match k,h with
 | 0,_=>rfl
 | 1,_=>rfl
 | 2,_=>rfl
 | 3,_=>rfl
 | 4,_=>rfl
 | 5,_=>rfl
 | 6,_=>rfl
 | 7,_=>rfl
 | 8,_=>rfl
 | 9,_=>rfl
 | 10,_=>rfl
 | 11,_=>rfl
 |k+12,h=>omega
theorem yX (lp:Bool)(k:Nat)(h:k<12):28≤([31,cond lp 29 28,31,30,31,30,31,31,30,31,30,31]:List Int).getD k 0 :=
 match k,h with
 | 0,_=>by cases lp<;>decide
 | 1,_=>by cases lp<;>decide
 | 2,_=>by cases lp<;>decide
 | 3,_=>by cases lp<;>decide
 | 4,_=>by cases lp<;>decide
 | 5,_=>by cases lp<;>decide
 | 6,_=>by cases lp<;>decide
 | 7,_=>by cases lp<;>decide
 | 8,_=>by cases lp<;>decide
 | 9,_=>by cases lp<;>decide
 | 10,_=>by cases lp<;>decide
 | 11,_=>by cases lp<;>decide
 |k+12,h=>by omega
theorem uX (y:Int):∀(m n k:Nat)(v:Int),k+m=12→m<n→0≤v→v<p8 (aF y) k→v<1000 →
  ∃a b,ey y n v ((k:Int)+1)=some (.x2 a b)∧eo y n v ((k:Int)+1)=some (.x2 a b)∧0≤a∧a<31∧1≤b∧b≤12
 |m,0,k,v,_,f,_,_,_=>by omega
 | 0,n+1,k,v,g,_,c,i,_=>by
  have:k=12:=by omega
  subst this;have:p8 (aF y) 12=0:=rfl;omega
 |m+1,n+1,k,v,g,f,c,i,j=>by
  have d:=qm y k (by omega);have r:=xj (aF y) k (by omega);have p:=yX (aF y) k (by omega);rw[←d]at r p;have e:inc ((k:Int)+1)=((k+1:Nat):Int)+1:=by rw[fJ _ (by omega) (by omega)];omega
  unfold ey eo;rw[e];by_cases q:v≥bK y ((k:Int)+1)
  ·rw[Cl q,Cs,Cs,ay _ (by omega) (by omega)];exact uX y m n (k+1) _ (by omega) (by omega) (by omega) (by omega) (by omega)
  ·rw[Cj q];have u:bK y ((k:Int)+1)≤31:=by
    rw[d]
    match k,(show k<12 by omega)with
    | 0,_=>cases aF y<;>decide
    | 1,_=>cases aF y<;>decide
    | 2,_=>cases aF y<;>decide
    | 3,_=>cases aF y<;>decide
    | 4,_=>cases aF y<;>decide
    | 5,_=>cases aF y<;>decide
    | 6,_=>cases aF y<;>decide
    | 7,_=>cases aF y<;>decide
    | 8,_=>cases aF y<;>decide
    | 9,_=>cases aF y<;>decide
    | 10,_=>cases aF y<;>decide
    | 11,_=>cases aF y<;>decide
    |k+12,h=>omega
   exact⟨v,_,rfl,rfl,c,by omega,by omega,by omega⟩
theorem zG (lp:Bool):p8 lp 0=cond lp 366 365:=by cases lp<;>decide
theorem bz {x a b:Int}:a8 x a b=true↔a≤x∧x≤b:=by unfold a8;simp
theorem qk (d:Int)(l:0≤d)(I:d<47482):∃y m k:Int,∀x,Int.tdiv x 1440=d→0≤x→x≤68374079 →
  d9 x=some (⟨y,m,k,Int.tdiv (Int.tmod x 1440) 60,Int.tmod x 60⟩,true)∧ff x=some (⟨y,m,k,Int.tdiv (Int.tmod x 1440) 60,Int.tmod x 60⟩,true)∧1970≤y∧y≤2099∧1≤m∧m≤12∧1≤k∧k≤31:=by
 obtain⟨k,i,g,c⟩:=u9 d l 130 (by unfold bn;omega);have t:d/366≤k:=by unfold bn at c;omega
 have u:(d/366).toNat≤k:=by omega
 have hs:=zo d k i g c (k-(d/366).toNat) 9223372036854775808 (d/366).toNat (by omega) (by omega);have hi:=zg d k i g c (by omega) k 9223372036854775808 0 (by omega) (by omega);have hd:=qn k i;have j:ek (1970+(k:Int))=cond (aF (1970+(k:Int))) 366 365:=rfl;have n:=zG (aF (1970+(k:Int)));rw[←j,hd]at n;have hv:d-bn k<p8 (aF (1970+(k:Int))) 0:=by rw[n];unfold bn at g c ⊢;omega
 obtain⟨a,b,o,p,J,K,v,w⟩:=uX (1970+(k:Int)) 12 9223372036854775808 0 (d-bn k) rfl (by omega) (by omega) hv (by unfold bn at g c ⊢;omega);have A:(((0:Nat):Int)+1)=1:=rfl;rw[A]at o p;refine⟨1970+(k:Int),b,a+1,fun x B h C=>?_⟩;have w0:IntKind.wrap .i64 (Int.tdiv x 1440)=d:=by rw[B];exact ay _ (by omega) (by omega)
 have D:IntKind.wrap .i64 (1970+IntKind.wrap .i64 (Int.tdiv d 366))=1970+(((d/366).toNat:Nat):Int):=by rw[Cr l,ay (d/366) (by omega) (by omega),ay _ (by omega) (by omega)];omega
 have F:IntKind.wrap .i64 (d-fi (1970+(k:Int)))=d-bn k:=by rw[xd k (by omega)];show IntKind.wrap .i64 (d-bn k)=_;exact ay _ (by unfold bn at *;omega) (by unfold bn at *;omega)
 have q:inc a=a+1:=fJ _ (by omega) (by omega);have r:0≤Int.tmod x 1440:=Int.tmod_nonneg _ h;have L:Int.tmod x 1440<1440:=D7 _ (by omega);have s:IntKind.wrap .i64 (Int.tdiv (Int.tmod x 1440) 60)=Int.tdiv (Int.tmod x 1440) 60:=by rw[Cr r];exact ay _ (by omega) (by omega)
 have G:Int.tmod (Int.tmod x 1440) 60=Int.tmod x 60:=by rw[CY r,CY h,CY h];omega
 have e:a8 x 0 68374079=true:=bz.2 ⟨h,C⟩;have f:da x=true:=e;refine⟨?_,?_,by omega,by omega,v,w,by omega,by omega⟩
 ·unfold d9;rw[e,Cs,w0,D,hs,BT];simp only;rw[F,o,BT];simp only;rw[q,s]
 ·unfold ff;rw[f,Cs,w0];have z:(d-bn 0)=d:=by unfold bn;omega
  have H:(1970+((0:Nat):Int))=1970:=rfl;rw[z,H]at hi;rw[hi,BT];simp only;rw[p,BT];simp only;rw[q,s,G]
theorem ww (x:Int)(a:0≤x)(b:x≤68374079):0≤Int.tdiv x 1440∧Int.tdiv x 1440<47482:=by rw[Cr a];omega
theorem rJ (x:Int):d9 x=some (aq x)∧ff x=some (aq x):=by
 by_cases q:a8 x 0 68374079=true
 ·obtain⟨a,b⟩:=bz.1 q;obtain⟨c,d⟩:=ww x a b;obtain⟨y,m,k,h⟩:=qk _ c d;obtain⟨e,f,_⟩:=h x rfl a b;unfold aq;rw[e,f];exact⟨rfl,rfl⟩
 ·rw[Bool.not_eq_true]at q;have g:da x=false:=q;unfold aq d9 ff;rw[q,g];exact⟨rfl,rfl⟩
theorem oD (x:Int)(a:0≤x)(b:x≤68374079):(aq x).1.f1=(aq (x/1440*1440)).1.f1∧(aq x).1.f2=(aq (x/1440*1440)).1.f2:=by obtain⟨c,d⟩:=ww x a b;obtain⟨y,m,k,h⟩:=qk _ c d;have e:=(h x rfl a b).1;have f:=(h (x/1440*1440) (by rw[Cr a,Cr (by omega)];omega) (by omega) (by omega)).1;unfold aq;rw[e,f];exact⟨rfl,rfl⟩
theorem dn (a:Int):Does E 38 [BI a] [(true,BC ((aq a).1)),BG ((aq a).2)]:=by exact uq a _ (rJ a).1
theorem ku (a:Int):Does E 45 [BI a] [(true,BC ((aq a).1)),BG ((aq a).2)]:=by exact t5 a _ (rJ a).2
noncomputable def dg (a:Int):Option (Int):=cond (a8 a 0 68374079) (some (Int.tmod (IntKind.wrap .i64 ((IntKind.wrap .i64 (Int.tdiv a 1440))+(4:Int))) 7)) (some ((-1:Int)))
theorem re (a:Int):Ans (dg a) (fun r=>Does E 39 [BI a] [BF r]):=by
 unfold dg;apply Bw<;>intro b
 ·exact Bt (DP Try.f39 [rT] (AD (BB (a5 a 0 68374079) b)<|AN))
 ·exact Bt (DP Try.f39 [rF] (AD (BB (a5 a 0 68374079) b)<|AN))
noncomputable def gw (a:Int):Option (Int):=cond (da a) (some (Int.tmod (IntKind.wrap .i64 ((IntKind.wrap .i64 (Int.tdiv a 1440))+(4:Int))) 7)) (some ((-1:Int)))
theorem qT (a:Int):Ans (gw a) (fun r=>Does E 53 [BI a] [BF r]):=by
 unfold gw;apply Bw<;>intro b
 ·exact Bt (DP Try.f53 [rT] (AD (BB (cX a) b)<|AN))
 ·exact Bt (DP Try.f53 [rF] (AD (BB (cX a) b)<|AN))
noncomputable def ak (x:Int):Int:=(dg x).getD 0
theorem u7 (x:Int):dg x=some (ak x)∧gw x=some (ak x):=by
 have e:gw x=dg x:=rfl;rw[e];refine⟨?_,?_⟩ <;>
 ·refine Tot.getD ?_ _;unfold dg;exact Tot.cond (Tot.some _) (Tot.some _)
theorem xA (x:Int)(a:0≤x)(b:x≤68374079):ak x=ak (x/1440*1440):=by
 unfold ak dg;rw[bz.2 ⟨a,b⟩,bz.2 ⟨(by omega:0≤x/1440*1440),by omega⟩,Cs,Cs];have:Int.tdiv x 1440=Int.tdiv (x/1440*1440) 1440:=by rw[Cr a,Cr (by omega)];omega
 rw[this]
theorem cL (a:Int):Does E 39 [BI a] [BF (ak a)]:=by exact re a _ (u7 a).1
theorem dH (a:Int):Does E 53 [BI a] [BF (ak a)]:=by exact qT a _ (u7 a).2
end
end Go.Proofs.Ytlhgcolciklecaa.Am
