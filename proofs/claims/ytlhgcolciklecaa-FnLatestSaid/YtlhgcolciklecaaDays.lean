/- Days and minutes. -/
import Derived.Test.YtlhgcolciklecaaDraws
namespace Go.Proofs.Ytlhgcolciklecaa.Am
open Go
set_option linter.unusedVariables false
set_option linter.unusedSimpArgs false
section
open Go.Proofs Classical
set_option maxRecDepth 100000
noncomputable def kS (a:Int):Option (Bool):=cond ((Int.tmod a (4:Int))==(0:Int)) (cond ((Int.tmod a 100) != 0) (some (true)) (some ((Int.tmod a (400:Int))==(0:Int)))) (some ((Int.tmod a (400:Int))==(0:Int)))
theorem uh (b:Int):Ans (kS b) (fun r=>Does E 55 [D7 b] [D5 r]):=by
 unfold kS;apply DO<;>intro a
 ·apply DO<;>intro c
  ·exact DL (DP Try.f55 [.no,.b true,.no,.b true] (AC a<|AC c<|AN))
  ·exact DL (DP Try.f55 [.no,.b true,.no,.b false] (AC a<|AC c<|AN))
 ·exact DL (DP Try.f55 [.no,.b false] (AC a<|AN))
def aL (y:Int):Bool:=(Int.tmod y 4==0)&&(Int.tmod y 100 != 0)||(Int.tmod y 400==0)
theorem ni (a:Int):Does E 55 [D7 a] [D5 (aL a)]:=by exact uh a _ (by unfold kS aL;cases Int.tmod a 4==0<;>cases Int.tmod a 100 != 0<;>rfl)
noncomputable def kJ (a:Int):Option (Bool):=cond ((Int.tmod a (4:Int))==(0:Int)) (cond ((Int.tmod a 100) != 0) (some (true)) (some ((Int.tmod a (400:Int))==(0:Int)))) (some ((Int.tmod a (400:Int))==(0:Int)))
theorem tC (b:Int):Ans (kJ b) (fun r=>Does E 57 [D7 b] [D5 r]):=by
 unfold kJ;apply DO<;>intro a
 ·apply DO<;>intro c
  ·exact DL (DP Try.f57 [.no,.b true,.no,.b true] (AC a<|AC c<|AN))
  ·exact DL (DP Try.f57 [.no,.b true,.no,.b false] (AC a<|AC c<|AN))
 ·exact DL (DP Try.f57 [.no,.b false] (AC a<|AN))
theorem iG (a:Int):Does E 57 [D7 a] [D5 (aL a)]:=by exact tC a _ (by unfold kJ aL;cases Int.tmod a 4==0<;>cases Int.tmod a 100 != 0<;>rfl)
noncomputable def fk (b a:Int):Option (Int):=cond (a==(1:Int)) (some (31)) (cond (a==(3:Int)) (some (31)) (cond (a==(5:Int)) (some (31)) (cond (a==(7:Int)) (some (31)) (cond (a==(8:Int)) (some (31)) (cond (a==(10:Int)) (some (31)) (cond (a==(12:Int)) (some (31)) (cond (a==(4:Int)) (some (30)) (cond (a==(6:Int)) (some (30)) (cond (a==(9:Int)) (some (30)) (cond (a==(11:Int)) (some (30)) (cond (a==(2:Int)) (cond (aL b) (some (29)) (some (28))) (some (0)))))))))))))
theorem w8 (n o:Int):Ans (fk n o) (fun r=>Does E 52 [D7 n,D7 o] [DZ r]):=by
 unfold fk;apply DO<;>intro a
 ·exact DL (DP Try.f52 [.b true] (AC a<|AN))
 ·apply DO<;>intro b
  ·exact DL (DP Try.f52 [.b false,.b true] (AC a<|AC b<|AN))
  ·apply DO<;>intro c
   ·exact DL (DP Try.f52 [.b false,.b false,.b true] (AC a<|AC b<|AC c<|AN))
   ·apply DO<;>intro d
    ·exact DL (DP Try.f52 [.b false,.b false,.b false,.b true] (AC a<|AC b<|AC c<|AC d<|AN))
    ·apply DO<;>intro e
     ·exact DL (DP Try.f52 [.b false,.b false,.b false,.b false,.b true] (AC a<|AC b<|AC c<|AC d<|AC e<|AN))
     ·apply DO<;>intro f
      ·exact DL (DP Try.f52 [.b false,.b false,.b false,.b false,.b false,.b true] (AC a<|AC b<|AC c<|AC d<|AC e<|AC f<|AN))
      ·apply DO<;>intro h
       ·exact DL (DP Try.f52 [.b false,.b false,.b false,.b false,.b false,.b false,.b true] (AC a<|AC b<|AC c<|AC d<|AC e<|AC f<|AC h<|AN))
       ·apply DO<;>intro i
        ·exact DL (DP Try.f52 [.b false,.b false,.b false,.b false,.b false,.b false,.b false,.b true] (AC a<|AC b<|AC c<|AC d<|AC e<|AC f<|AC h<|AC i<|AN))
        ·apply DO<;>intro k
         ·exact DL (DP Try.f52 [.b false,.b false,.b false,.b false,.b false,.b false,.b false,.b false,.b true] (AC a<|AC b<|AC c<|AC d<|AC e<|AC f<|AC h<|AC i<|AC k<|AN))
         ·apply DO<;>intro l
          ·exact DL (DP Try.f52 [.b false,.b false,.b false,.b false,.b false,.b false,.b false,.b false,.b false,.b true] (AC a<|AC b<|AC c<|AC d<|AC e<|AC f<|AC h<|AC i<|AC k<|AC l<|AN))
          ·apply DO<;>intro g
           ·exact DL (DP Try.f52 [.b false,.b false,.b false,.b false,.b false,.b false,.b false,.b false,.b false,.b false,.b true] (AC a<|AC b<|AC c<|AC d<|AC e<|AC f<|AC h<|AC i<|AC k<|AC l<|AC g<|AN))
           ·apply DO<;>intro j
            ·apply DO<;>intro m
             ·exact DL (DP Try.f52 [.b false,.b false,.b false,.b false,.b false,.b false,.b false,.b false,.b false,.b false,.b false,.b true,rT] (AC a<|AC b<|AC c<|AC d<|AC e<|AC f<|AC h<|AC i<|AC k<|AC l<|AC g<|AC j<|AD (DV (iG n) m)<|AN))
             ·exact DL (DP Try.f52 [.b false,.b false,.b false,.b false,.b false,.b false,.b false,.b false,.b false,.b false,.b false,.b true,rF] (AC a<|AC b<|AC c<|AC d<|AC e<|AC f<|AC h<|AC i<|AC k<|AC l<|AC g<|AC j<|AD (DV (iG n) m)<|AN))
            ·exact DL (DP Try.f52 [.b false,.b false,.b false,.b false,.b false,.b false,.b false,.b false,.b false,.b false,.b false,.b false] (AC a<|AC b<|AC c<|AC d<|AC e<|AC f<|AC h<|AC i<|AC k<|AC l<|AC g<|AC j<|AN))
noncomputable def bY (y m:Int):Int:=(fk y m).getD 0
theorem tA (y m:Int):fk y m=some (bY y m):=by refine Tot.getD ?_ _;unfold fk;repeat' (first|exact Tot.some _|apply Tot.cond)
theorem mg (a:Int)(b:Int):Does E 52 [D7 a,D7 b] [DZ (bY a b)]:=by exact w8 a b _ (tA a b)
noncomputable def kp (c a:Int):Option (Int):=cond (bA a 1 12) (cond (a==(2:Int)) (cond (aL c) (some (29)) ((ba ([31,28,31,30,31,30,31,31,30,31,30,31]) (IntKind.wrap .i64 (a-(1:Int)))).bind fun b=>some (b))) ((ba ([31,28,31,30,31,30,31,31,30,31,30,31]) (IntKind.wrap .i64 (a-(1:Int)))).bind fun b=>some (b))) (some (0))
theorem xn (b a:Int):Ans (kp b a) (fun r=>Does E 49 [D7 b,D7 a] [DZ r]):=by
 unfold kp;apply DO<;>intro c
 ·apply DO<;>intro e
  ·apply DO<;>intro d
   ·exact DL (DP Try.f49 [rT,.b true,rT] (AD (DV (bG a 1 12) c)<|AC e<|AD (DV (ni b) d)<|AN))
   ·apply DQ;intro f g;exact DL (DP Try.f49 [rT,.b true,rF,.row (etI f)] (AD (DV (bG a 1 12) c)<|AC e<|AD (DV (ni b) d)<|AG etI g<|AN))
  ·apply DQ;intro f d;exact DL (DP Try.f49 [rT,.b false,.row (etI f)] (AD (DV (bG a 1 12) c)<|AC e<|AG etI d<|AN))
 ·exact DL (DP Try.f49 [rF] (AD (DV (bG a 1 12) c)<|AN))
theorem rc (y:Int)(k:Nat)(h:k<12):bY y ((k:Int)+1)=([31,cond (aL y) 29 28,31,30,31,30,31,31,30,31,30,31]:List Int).getD k 0:=by
 unfold bY fk
 match k,h with
 | 0,_=>rfl
 | 1,_=>show(cond (aL y) (some 29) (some 28):Option Int).getD 0=cond (aL y) 29 28;cases aL y<;>rfl
 | 2,_=>rfl
 | 3,_=>rfl
 | 4,_=>rfl
 | 5,_=>rfl
 | 6,_=>rfl
 | 7,_=>rfl
 | 8,_=>rfl
 | 9,_=>rfl
 | 10,_=>rfl
 | 11,_=>rfl
 |k+12,h=>omega
theorem xL (y m:Int)(h:¬(1≤m∧m≤12)):bY y m=0:=by
 unfold bY fk;have e:∀j:Int,1≤j→j≤12→(m==j)=false:=fun j a b=>FB.2 fun e=>h (by omega)
 simp[e]
theorem ue (y m:Int):kp y m=some (bY y m):=by
 unfold kp;by_cases q:1≤m∧m≤12
 ·obtain⟨k,rfl⟩:∃k:Nat,m=(k:Int)+1:=⟨(m-1).toNat,by omega⟩
  have c:k<12:=by omega
  rw[rc y k c]
  match k,c with
  | 0,_=>rfl
  | 1,_=>show(cond (aL y) (some 29) (some 28):Option Int)=some (cond (aL y) 29 28);cases aL y<;>rfl
  | 2,_=>rfl
  | 3,_=>rfl
  | 4,_=>rfl
  | 5,_=>rfl
  | 6,_=>rfl
  | 7,_=>rfl
  | 8,_=>rfl
  | 9,_=>rfl
  | 10,_=>rfl
  | 11,_=>rfl
  |k+12,h=>omega
 ·rw[xL y m q];have:bA m 1 12=false:=by
   unfold bA;by_cases a:m≥1
   ·have:¬m≤12:=fun b=>q ⟨a,b⟩
    simp[a,this]
   ·simp[a]
  rw[this];rfl
theorem mi (a:Int)(b:Int):Does E 49 [D7 a,D7 b] [DZ (bY a b)]:=by exact xn a b _ (ue a b)
noncomputable def mB (a:Int):Option (Int):=cond (aL a) (some (366)) (some (365))
theorem xb (a:Int):Ans (mB a) (fun r=>Does E 51 [D7 a] [DZ r]):=by
 unfold mB;apply DO<;>intro b
 ·exact DL (DP Try.f51 [rT] (AD (DV (iG a) b)<|AN))
 ·exact DL (DP Try.f51 [rF] (AD (DV (iG a) b)<|AN))
def eJ (y:Int):Int:=cond (aL y) 366 365
theorem mh (a:Int):Does E 51 [D7 a] [DZ (eJ a)]:=by exact xb a _ (by unfold mB eJ;cases aL a<;>rfl)
noncomputable def jO (a:Int):Option (Int):=some (IntKind.wrap .i64 ((IntKind.wrap .i64 ((365:Int)*(IntKind.wrap .i64 (a-(1970:Int)))))+(IntKind.wrap .i64 (Int.tdiv (inc (IntKind.wrap .i64 (a-(1970:Int)))) 4))))
theorem vA (a:Int):Ans (jO a) (fun r=>Does E 48 [D7 a] [DZ r]):=by unfold jO;exact DL (DP Try.f48 [] AN)
noncomputable def fN (y:Int):Int:=(jO y).getD 0
theorem yu (k:Nat)(h:k≤200):fN (1970+(k:Int))=365*(k:Int)+((k:Int)+1)/4:=by
 unfold fN jO;simp only[FX];have a:IntKind.wrap .i64 (1970+(k:Int)-1970)=(k:Int):=by rw[aF _ (by omega) (by omega)];omega
 have b:IntKind.wrap .i64 (365*(k:Int))=365*(k:Int):=aF _ (by omega) (by omega);have c:inc (k:Int)=(k:Int)+1:=dP _ (by omega) (by omega);have d:IntKind.wrap .i64 (((k:Int)+1).tdiv 4)=((k:Int)+1)/4:=by rw[E1 (by omega)];exact aF _ (by omega) (by omega)
 rw[a,b,c,d];exact aF _ (by omega) (by omega)
theorem wD:(List.range 130).all (fun k=>decide (eJ (1970+(k:Int))=365+(((k:Int)+2)/4-((k:Int)+1)/4)))=true:=by decide +kernel
theorem re (k:Nat)(h:k<130):eJ (1970+(k:Int))=365+(((k:Int)+2)/4-((k:Int)+1)/4):=
 F5 (Eo.1 wD k (EW.2 h))
theorem ll (a:Int):Does E 48 [D7 a] [DZ (fN a)]:=by exact vA a _ rfl
noncomputable def nL (a:Int):Option (Bool):=some (bA a 0 68374079)
theorem tE (a:Int):Ans (nL a) (fun r=>Does E 44 [D7 a] [D5 r]):=by unfold nL;exact DL (DP Try.f44 [.ret [D5 (bA a 0 68374079)]] (AD (gK a 0 (68374079:Int))<|AN))
def dq (x:Int):Bool:=bA x 0 68374079
theorem di (a:Int):Does E 44 [D7 a] [D5 (dq a)]:=by exact tE a _ rfl
inductive nZ where|x2 (v4 v6:Int)
def iY (a v2_0 v2_1 v2_2 v2_3 v2_4 v4 v5 v6:Int):US:=stL 49 [(0,D7 a),(2,.box () [tI v2_0,tI v2_1,tI v2_2,tI v2_3,tI v2_4]),(4,D7 v4),(5,D7 v5),(6,D7 v6)]
def jA (c v2_0 v2_1 v2_2 v2_3 v2_4 v5 a b:Int):US:=stL 49 [(0,D7 c),(2,.box () [tI v2_0,tI v2_1,tI v2_2,tI v2_3,tI v2_4]),(4,D7 a),(5,D7 v5),(6,D7 b)]
abbrev nX:US→Exit→US→Prop:=Round E 38 (aI Try.f38 1)
def ud (c v2_0 v2_1 v2_2 v2_3 v2_4 v4 v5 v6:Int):nZ→Prop| .x2 a b=>Loops E 38 (aI Try.f38 1) (iY c v2_0 v2_1 v2_2 v2_3 v2_4 v4 v5 v6) (.exit 2) (jA c v2_0 v2_1 v2_2 v2_3 v2_4 v5 a b)
noncomputable def eT (v5:Int):Nat→Int→Int→Option nZ| 0,_,_=>none|n+1,v4,v6=>cond (decide (v4≥(bY v5 v6))) (eT v5 n (IntKind.wrap .i64 (v4-(bY v5 v6))) (inc v6)) (some (.x2 v4 v6))
theorem ub (a v2_0 v2_1 v2_2 v2_3 v2_4 v5:Int)(n:Nat):∀(v4 v6:Int),Ans (eT v5 n v4 v6) (ud a v2_0 v2_1 v2_2 v2_3 v2_4 v4 v5 v6):=by
 induction n with
 |zero=>intros;exact Ans.none
 |succ n c =>
  intro v4 v6;unfold eT;apply DO<;>intro b
  ·have r:nX (iY a v2_0 v2_1 v2_2 v2_3 v2_4 v4 v5 v6) .normal (iY a v2_0 v2_1 v2_2 v2_3 v2_4 (IntKind.wrap .i64 (v4-(bY v5 v6))) v5 (inc v6)):=RP [.ret [DZ (bY v5 v6)],.b true,.ret [DZ (bY v5 v6)]] (AD (mi v5 v6)<|AC b<|AD (mi v5 v6)<|AN);exact(c (IntKind.wrap .i64 (v4-(bY v5 v6))) (inc v6)).mono fun y d=>by cases y<;>exact DM r d
  ·exact DL (DN (show nX (iY a v2_0 v2_1 v2_2 v2_3 v2_4 v4 v5 v6) (.exit 2) (jA a v2_0 v2_1 v2_2 v2_3 v2_4 v5 v4 v6)from RP [.ret [DZ (bY v5 v6)],.b false] (AD (mi v5 v6)<|AC b<|AN)))
inductive nY where|x0 (v5:Int)
def iX (a v2_0 v2_1 v2_2 v2_3 v2_4 v4 v5:Int):US:=stL 49 [(0,D7 a),(2,.box () [tI v2_0,tI v2_1,tI v2_2,tI v2_3,tI v2_4]),(4,D7 v4),(5,D7 v5)]
def jz (b v2_0 v2_1 v2_2 v2_3 v2_4 v4 a:Int):US:=stL 49 [(0,D7 b),(2,.box () [tI v2_0,tI v2_1,tI v2_2,tI v2_3,tI v2_4]),(4,D7 v4),(5,D7 a)]
abbrev nW:US→Exit→US→Prop:=Round E 38 (aI Try.f38 0)
def uc (b v2_0 v2_1 v2_2 v2_3 v2_4 v4 v5:Int):nY→Prop| .x0 a=>Loops E 38 (aI Try.f38 0) (iX b v2_0 v2_1 v2_2 v2_3 v2_4 v4 v5) (.exit 0) (jz b v2_0 v2_1 v2_2 v2_3 v2_4 v4 a)
noncomputable def eS (v4:Int):Nat→Int→Option nY| 0,_=>none|n+1,v5=>cond (decide ((fN (inc v5))≤v4)) (eS v4 n (inc v5)) (some (.x0 v5))
theorem ua (a v2_0 v2_1 v2_2 v2_3 v2_4 v4:Int)(n:Nat):∀(v5:Int),Ans (eS v4 n v5) (uc a v2_0 v2_1 v2_2 v2_3 v2_4 v4 v5):=by
 induction n with
 |zero=>intros;exact Ans.none
 |succ n c =>
  intro v5;unfold eS;apply DO<;>intro b
  ·have r:nW (iX a v2_0 v2_1 v2_2 v2_3 v2_4 v4 v5) .normal (iX a v2_0 v2_1 v2_2 v2_3 v2_4 v4 (inc v5)):=RP [.ret [DZ (fN (inc v5))],.b true] (AD (ll (inc v5))<|AC b<|AN);exact(c (inc v5)).mono fun y d=>by cases y<;>exact DM r d
  ·exact DL (DN (show nW (iX a v2_0 v2_1 v2_2 v2_3 v2_4 v4 v5) (.exit 0) (jz a v2_0 v2_1 v2_2 v2_3 v2_4 v4 v5)from RP [.ret [DZ (fN (inc v5))],.b false] (AD (ll (inc v5))<|AC b<|AN)))
noncomputable def eD (b:Int):Option (GCivil×Bool):=
  cond (bA b 0 68374079)
   ((eS (IntKind.wrap .i64 (Int.tdiv b 1440)) 9223372036854775808 (IntKind.wrap .i64 ((1970:Int)+(IntKind.wrap .i64 (Int.tdiv (IntKind.wrap .i64 (Int.tdiv b 1440)) 366))))).bind fun y=>match y with
    | .x0 a=>((eT a 9223372036854775808 (IntKind.wrap .i64 ((IntKind.wrap .i64 (Int.tdiv b 1440))-(fN a))) 1).bind fun y=>match y with
     | .x2 c d=>(some ((GCivil.mk a d (inc c) (IntKind.wrap .i64 (Int.tdiv (Int.tmod b 1440) 60)) (Int.tmod b 60)),true))))
   (some ((GCivil.mk 0 0 0 0 0),false))
theorem vt (x0:Int):Ans (eD x0) (fun r=>Does E 38 [D7 x0] [(true,DW r.1),D5 r.2]):=by
 unfold eD;apply DO<;>intro e
 ·apply DQ;intro y b;replace b:=ua x0 0 0 0 0 0 (IntKind.wrap .i64 (Int.tdiv x0 1440)) 9223372036854775808 (IntKind.wrap .i64 ((1970:Int)+(IntKind.wrap .i64 (Int.tdiv (IntKind.wrap .i64 (Int.tdiv x0 1440)) 366)))) y b;cases y with
  |x0 a =>
   have f:=b;apply DQ;intro y b;replace b:=ub x0 0 0 0 0 0 a 9223372036854775808 (IntKind.wrap .i64 ((IntKind.wrap .i64 (Int.tdiv x0 1440))-(fN a))) 1 y b;cases y with
   |x2 c d =>have g:=b;exact DL (DP Try.f38 [rT,.lp (.exit 0) (jz x0 0 0 0 0 0 (IntKind.wrap .i64 (Int.tdiv x0 1440)) a),.ret [DZ (fN a)],.lp (.exit 2) (jA x0 0 0 0 0 0 a c d)] (AD (DV (bG x0 0 68374079) e)<|AL f<|AD (ll a)<|AL g<|AN))
 ·exact DL (DP Try.f38 [rF] (AD (DV (bG x0 0 68374079) e)<|AN))
inductive nJ where|x2 (v4 v6_1:Int)
def iP (v2_0 v2_1 v2_2 v2_3 v2_4 v4 v6_0 v6_1 a b c:Int):US:=stL 56 [(2,.box () [tI v2_0,tI v2_1,tI v2_2,tI v2_3,tI v2_4]),(4,D7 v4),(6,.box () [tI v6_0,tI v6_1,tI a,tI b,tI c])]
def jr (v2_0 v2_1 v2_2 v2_3 v2_4 v6_0 b c d e a:Int):US:=stL 56 [(2,.box () [tI v2_0,tI v2_1,tI v2_2,tI v2_3,tI v2_4]),(4,D7 e),(6,.box () [tI v6_0,tI a,tI b,tI c,tI d])]
abbrev nH:US→Exit→US→Prop:=Round E 45 (aI Try.f45 1)
def tz (v2_0 v2_1 v2_2 v2_3 v2_4 v4 v6_0 v6_1 a b c:Int):nJ→Prop| .x2 e d=>Loops E 45 (aI Try.f45 1) (iP v2_0 v2_1 v2_2 v2_3 v2_4 v4 v6_0 v6_1 a b c) (.exit 2) (jr v2_0 v2_1 v2_2 v2_3 v2_4 v6_0 a b c e d)
noncomputable def eP (v6_0:Int):Nat→Int→Int→Option nJ| 0,_,_=>none|n+1,v4,v6_1=>cond (decide (v4≥(bY v6_0 v6_1))) (eP v6_0 n (IntKind.wrap .i64 (v4-(bY v6_0 v6_1))) (inc v6_1)) (some (.x2 v4 v6_1))
theorem tv (v2_0 v2_1 v2_2 v2_3 v2_4 v6_0 a b c:Int)(n:Nat):∀(v4 v6_1:Int),Ans (eP v6_0 n v4 v6_1) (tz v2_0 v2_1 v2_2 v2_3 v2_4 v4 v6_0 v6_1 a b c):=by
 induction n with
 |zero=>intros;exact Ans.none
 |succ n e =>
  intro v4 v6_1;unfold eP;apply DO<;>intro d
  ·have r:nH (iP v2_0 v2_1 v2_2 v2_3 v2_4 v4 v6_0 v6_1 a b c) .normal (iP v2_0 v2_1 v2_2 v2_3 v2_4 (IntKind.wrap .i64 (v4-(bY v6_0 v6_1))) v6_0 (inc v6_1) a b c):=RP [.ret [DZ (bY v6_0 v6_1)],.b true,.ret [DZ (bY v6_0 v6_1)]] (AD (mg v6_0 v6_1)<|AC d<|AD (mg v6_0 v6_1)<|AN);exact(e (IntKind.wrap .i64 (v4-(bY v6_0 v6_1))) (inc v6_1)).mono fun y f=>by cases y<;>exact DM r f
  ·exact DL (DN (show nH (iP v2_0 v2_1 v2_2 v2_3 v2_4 v4 v6_0 v6_1 a b c) (.exit 2) (jr v2_0 v2_1 v2_2 v2_3 v2_4 v6_0 a b c v4 v6_1)from RP [.ret [DZ (bY v6_0 v6_1)],.b false] (AD (mg v6_0 v6_1)<|AC d<|AN)))
inductive nI where|x0 (v4 v6_0:Int)
def iO (v2_0 v2_1 v2_2 v2_3 v2_4 v4 v6_0 v6_1 a b c:Int):US:=stL 56 [(2,.box () [tI v2_0,tI v2_1,tI v2_2,tI v2_3,tI v2_4]),(4,D7 v4),(6,.box () [tI v6_0,tI v6_1,tI a,tI b,tI c])]
def jq (v2_0 v2_1 v2_2 v2_3 v2_4 v6_1 b c d e a:Int):US:=stL 56 [(2,.box () [tI v2_0,tI v2_1,tI v2_2,tI v2_3,tI v2_4]),(4,D7 e),(6,.box () [tI a,tI v6_1,tI b,tI c,tI d])]
abbrev nG:US→Exit→US→Prop:=Round E 45 (aI Try.f45 0)
def tw (v2_0 v2_1 v2_2 v2_3 v2_4 v4 v6_0 v6_1 a b c:Int):nI→Prop| .x0 e d=>Loops E 45 (aI Try.f45 0) (iO v2_0 v2_1 v2_2 v2_3 v2_4 v4 v6_0 v6_1 a b c) (.exit 0) (jq v2_0 v2_1 v2_2 v2_3 v2_4 v6_1 a b c e d)
noncomputable def eO  : Nat→Int→Int→Option nI| 0,_,_=>none|n+1,v4,v6_0=>cond (decide (v4≥(eJ v6_0))) (eO n (IntKind.wrap .i64 (v4-(eJ v6_0))) (inc v6_0)) (some (.x0 v4 v6_0))
theorem tu (v2_0 v2_1 v2_2 v2_3 v2_4 v6_1 a b c:Int)(n:Nat):∀(v4 v6_0:Int),Ans (eO n v4 v6_0) (tw v2_0 v2_1 v2_2 v2_3 v2_4 v4 v6_0 v6_1 a b c):=by
 induction n with
 |zero=>intros;exact Ans.none
 |succ n e =>
  intro v4 v6_0;unfold eO;apply DO<;>intro d
  ·have r:nG (iO v2_0 v2_1 v2_2 v2_3 v2_4 v4 v6_0 v6_1 a b c) .normal (iO v2_0 v2_1 v2_2 v2_3 v2_4 (IntKind.wrap .i64 (v4-(eJ v6_0))) (inc v6_0) v6_1 a b c):=RP [.ret [DZ (eJ v6_0)],.b true,.ret [DZ (eJ v6_0)]] (AD (mh v6_0)<|AC d<|AD (mh v6_0)<|AN);exact(e (IntKind.wrap .i64 (v4-(eJ v6_0))) (inc v6_0)).mono fun y f=>by cases y<;>exact DM r f
  ·exact DL (DN (show nG (iO v2_0 v2_1 v2_2 v2_3 v2_4 v4 v6_0 v6_1 a b c) (.exit 0) (jq v2_0 v2_1 v2_2 v2_3 v2_4 v6_1 a b c v4 v6_0)from RP [.ret [DZ (eJ v6_0)],.b false] (AD (mh v6_0)<|AC d<|AN)))
noncomputable def fK (e:Int):Option (GCivil×Bool):=
  cond (dq e)
   ((eO 9223372036854775808 (IntKind.wrap .i64 (Int.tdiv e 1440)) 1970).bind fun y=>match y with
    | .x0 c a=>((eP a 9223372036854775808 c 1).bind fun y=>match y with
     | .x2 d b=>(some ((GCivil.mk a b (inc d) (IntKind.wrap .i64 (Int.tdiv (Int.tmod e 1440) 60)) (Int.tmod (Int.tmod e 1440) 60)),true))))
   (some ((GCivil.mk 0 0 0 0 0),false))
theorem u7 (x0:Int):Ans (fK x0) (fun r=>Does E 45 [D7 x0] [(true,DW r.1),D5 r.2]):=by
 unfold fK;apply DO<;>intro f
 ·apply DQ;intro y d;replace d:=tu 0 0 0 0 0 1 0 (IntKind.wrap .i64 (Int.tdiv (Int.tmod x0 1440) 60)) (Int.tmod (Int.tmod x0 1440) 60) 9223372036854775808 (IntKind.wrap .i64 (Int.tdiv x0 1440)) 1970 y d;cases y with
  |x0 c a =>
   have g:=d;apply DQ;intro y d;replace d:=tv 0 0 0 0 0 a 0 (IntKind.wrap .i64 (Int.tdiv (Int.tmod x0 1440) 60)) (Int.tmod (Int.tmod x0 1440) 60) 9223372036854775808 c 1 y d;cases y with
   |x2 e b =>have h:=d;exact DL (DP Try.f45 [rT,.lp (.exit 0) (jq 0 0 0 0 0 1 0 (IntKind.wrap .i64 (Int.tdiv (Int.tmod x0 1440) 60)) (Int.tmod (Int.tmod x0 1440) 60) c a),.lp (.exit 2) (jr 0 0 0 0 0 a 0 (IntKind.wrap .i64 (Int.tdiv (Int.tmod x0 1440) 60)) (Int.tmod (Int.tmod x0 1440) 60) e b)] (AD (DV (di x0) f)<|AL g<|AL h<|AN))
 ·exact DL (DP Try.f45 [rF] (AD (DV (di x0) f)<|AN))
noncomputable def au (x:Int):GCivil×Bool:=(eD x).getD (⟨0,0,0,0,0⟩,false)
def bD (k:Nat):Int:=365*(k:Int)+((k:Int)+1)/4
theorem wr (D:Int)(a:0≤D):∀j:Nat,D<bD j→∃k:Nat,k<j∧bD k≤D∧D<bD (k+1)
 | 0,h=>by simp[bD]at h;omega
 |j+1,h=>by
  by_cases q:D<bD j
  ·obtain⟨k,c,b⟩:=wr D a j q;exact⟨k,by omega,b⟩
  ·exact⟨j,by omega,by omega,h⟩
theorem AO (D:Int)(k:Nat)(b:k<130)(d:bD k≤D)(f:D<bD (k+1)):∀(m n:Nat)(j:Nat),j+m=k→m<n→eS D n (1970+(j:Int))=some (.x0 (1970+(k:Int)))
 |m,0,j,_,g=>by omega
 |m,n+1,j,a,g=>by
  unfold eS;have e:inc (1970+(j:Int))=1970+((j+1:Nat):Int):=by rw[dP _ (by omega) (by omega)];omega
  rw[e,yu (j+1) (by omega)];have c:365*((j+1:Nat):Int)+(((j+1:Nat):Int)+1)/4=bD (j+1):=rfl;rw[c]
  match m,a with
  | 0,a =>
   have:j=k:=by omega
   subst this;rw[EA (by omega)];rfl
  |m+1,a =>
   have:bD (j+1)≤bD k:=by unfold bD;omega
   rw[EC (by omega)];exact AO D k b d f m n (j+1) (by omega) (by omega)
theorem Az (D:Int)(k:Nat)(b:k<130)(c:bD k≤D)(f:D<bD (k+1))(g:D<100000):∀(m n:Nat)(j:Nat),j+m=k→m<n→eO n (D-bD j) (1970+(j:Int))=some (.x0 (D-bD k) (1970+(k:Int)))
 |m,0,j,_,h=>by omega
 |m,n+1,j,a,h=>by
  unfold eO;have e:inc (1970+(j:Int))=1970+((j+1:Nat):Int):=by rw[dP _ (by omega) (by omega)];omega
  have d:eJ (1970+(j:Int))=bD (j+1)-bD j:=by rw[re j (by omega)];unfold bD;omega
  rw[e,d];have i:0≤bD j:=by unfold bD;omega
  match m,a with
  | 0,a =>
   have:j=k:=by omega
   subst this;rw[EA (by omega)];rfl
  |m+1,a =>
   have:bD (j+1)≤bD k:=by unfold bD;omega
   rw[EC (by omega),EG];have w:IntKind.wrap .i64 (D-bD j-(bD (j+1)-bD j))=D-bD (j+1):=by
    have:bD (j+1)≤100000∧0≤bD (j+1):=by unfold bD;omega
    rw[aF _ (by omega) (by omega)];omega
   rw[w];exact Az D k b c f g m n (j+1) (by omega) (by omega)
def qM (lp:Bool)(k:Nat):Int:=((([31,cond lp 29 28,31,30,31,30,31,31,30,31,30,31]:List Int).drop k).foldr (· + ·) 0)
theorem yC (lp:Bool)(k:Nat)(h:k<12):qM lp k=([31,cond lp 29 28,31,30,31,30,31,31,30,31,30,31]:List Int).getD k 0+qM lp (k+1):=by
 match k,h with
 | 0,_=>rfl
 | 1,_=>rfl
 | 2,_=>rfl
 | 3,_=>rfl
 | 4,_=>rfl
 | 5,_=>rfl
 | 6,_=>rfl
 | 7,_=>rfl
 | 8,_=>rfl
 | 9,_=>rfl
 | 10,_=>rfl
 | 11,_=>rfl
 |k+12,h=>omega
theorem Af (lp:Bool)(k:Nat)(h:k<12):28≤([31,cond lp 29 28,31,30,31,30,31,31,30,31,30,31]:List Int).getD k 0 :=
 match k,h with
 | 0,_=>by cases lp<;>decide
 | 1,_=>by cases lp<;>decide
 | 2,_=>by cases lp<;>decide
 | 3,_=>by cases lp<;>decide
 | 4,_=>by cases lp<;>decide
 | 5,_=>by cases lp<;>decide
 | 6,_=>by cases lp<;>decide
 | 7,_=>by cases lp<;>decide
 | 8,_=>by cases lp<;>decide
 | 9,_=>by cases lp<;>decide
 | 10,_=>by cases lp<;>decide
 | 11,_=>by cases lp<;>decide
 |k+12,h=>by omega
theorem wc (y:Int):∀(m n k:Nat)(v:Int),k+m=12→m<n→0≤v→v<qM (aL y) k→v<1000 →
  ∃a b,eT y n v ((k:Int)+1)=some (.x2 a b)∧eP y n v ((k:Int)+1)=some (.x2 a b)∧0≤a∧a<31∧1≤b∧b≤12
 |m,0,k,v,_,f,_,_,_=>by omega
 | 0,n+1,k,v,g,_,c,i,_=>by
  have:k=12:=by omega
  subst this;have:qM (aL y) 12=0:=rfl;omega
 |m+1,n+1,k,v,g,f,c,i,j=>by
  have d:=rc y k (by omega);have r:=yC (aL y) k (by omega);have p:=Af (aL y) k (by omega);rw[←d]at r p;have e:inc ((k:Int)+1)=((k+1:Nat):Int)+1:=by rw[dP _ (by omega) (by omega)];omega
  unfold eT eP;rw[e];by_cases q:v≥bY y ((k:Int)+1)
  ·rw[EC q,EG,EG,aF _ (by omega) (by omega)];exact wc y m n (k+1) _ (by omega) (by omega) (by omega) (by omega) (by omega)
  ·rw[EA q];have u:bY y ((k:Int)+1)≤31:=by
    rw[d]
    match k,(show k<12 by omega)with
    | 0,_=>cases aL y<;>decide
    | 1,_=>cases aL y<;>decide
    | 2,_=>cases aL y<;>decide
    | 3,_=>cases aL y<;>decide
    | 4,_=>cases aL y<;>decide
    | 5,_=>cases aL y<;>decide
    | 6,_=>cases aL y<;>decide
    | 7,_=>cases aL y<;>decide
    | 8,_=>cases aL y<;>decide
    | 9,_=>cases aL y<;>decide
    | 10,_=>cases aL y<;>decide
    | 11,_=>cases aL y<;>decide
    |k+12,h=>omega
   exact⟨v,_,rfl,rfl,c,by omega,by omega,by omega⟩
theorem A5 (lp:Bool):qM lp 0=cond lp 366 365:=by cases lp<;>decide
theorem b9 {x a b:Int}:bA x a b=true↔a≤x∧x≤b:=by unfold bA;simp
theorem q9 (d:Int)(l:0≤d)(I:d<47482):∃y m k:Int,∀x,Int.tdiv x 1440=d→0≤x→x≤68374079 →
  eD x=some (⟨y,m,k,Int.tdiv (Int.tmod x 1440) 60,Int.tmod x 60⟩,true)∧fK x=some (⟨y,m,k,Int.tdiv (Int.tmod x 1440) 60,Int.tmod x 60⟩,true)∧1970≤y∧y≤2099∧1≤m∧m≤12∧1≤k∧k≤31:=by
 obtain⟨k,i,g,c⟩:=wr d l 130 (by unfold bD;omega);have t:d/366≤k:=by unfold bD at c;omega
 have u:(d/366).toNat≤k:=by omega
 have hs:=AO d k i g c (k-(d/366).toNat) 9223372036854775808 (d/366).toNat (by omega) (by omega);have hi:=Az d k i g c (by omega) k 9223372036854775808 0 (by omega) (by omega);have hd:=re k i;have j:eJ (1970+(k:Int))=cond (aL (1970+(k:Int))) 366 365:=rfl;have n:=A5 (aL (1970+(k:Int)));rw[←j,hd]at n;have hv:d-bD k<qM (aL (1970+(k:Int))) 0:=by rw[n];unfold bD at g c ⊢;omega
 obtain⟨a,b,o,p,J,K,v,w⟩:=wc (1970+(k:Int)) 12 9223372036854775808 0 (d-bD k) rfl (by omega) (by omega) hv (by unfold bD at g c ⊢;omega);have A:(((0:Nat):Int)+1)=1:=rfl;rw[A]at o p;refine⟨1970+(k:Int),b,a+1,fun x B h C=>?_⟩;have w0:IntKind.wrap .i64 (Int.tdiv x 1440)=d:=by rw[B];exact aF _ (by omega) (by omega)
 have D:IntKind.wrap .i64 (1970+IntKind.wrap .i64 (Int.tdiv d 366))=1970+(((d/366).toNat:Nat):Int):=by rw[E1 l,aF (d/366) (by omega) (by omega),aF _ (by omega) (by omega)];omega
 have F:IntKind.wrap .i64 (d-fN (1970+(k:Int)))=d-bD k:=by rw[yu k (by omega)];show IntKind.wrap .i64 (d-bD k)=_;exact aF _ (by unfold bD at *;omega) (by unfold bD at *;omega)
 have q:inc a=a+1:=dP _ (by omega) (by omega);have r:0≤Int.tmod x 1440:=Int.tmod_nonneg _ h;have L:Int.tmod x 1440<1440:=Gv _ (by omega);have s:IntKind.wrap .i64 (Int.tdiv (Int.tmod x 1440) 60)=Int.tdiv (Int.tmod x 1440) 60:=by rw[E1 r];exact aF _ (by omega) (by omega)
 have G:Int.tmod (Int.tmod x 1440) 60=Int.tmod x 60:=by rw[FE r,FE h,FE h];omega
 have e:bA x 0 68374079=true:=b9.2 ⟨h,C⟩;have f:dq x=true:=e;refine⟨?_,?_,by omega,by omega,v,w,by omega,by omega⟩
 ·unfold eD;rw[e,EG,w0,D,hs,Eg];simp only;rw[F,o,Eg];simp only;rw[q,s]
 ·unfold fK;rw[f,EG,w0];have z:(d-bD 0)=d:=by unfold bD;omega
  have H:(1970+((0:Nat):Int))=1970:=rfl;rw[z,H]at hi;rw[hi,Eg];simp only;rw[p,Eg];simp only;rw[q,s,G]
theorem xK (x:Int)(a:0≤x)(b:x≤68374079):0≤Int.tdiv x 1440∧Int.tdiv x 1440<47482:=by rw[E1 a];omega
theorem sQ (x:Int):eD x=some (au x)∧fK x=some (au x):=by
 by_cases q:bA x 0 68374079=true
 ·obtain⟨a,b⟩:=b9.1 q;obtain⟨c,d⟩:=xK x a b;obtain⟨y,m,k,h⟩:=q9 _ c d;obtain⟨e,f,_⟩:=h x rfl a b;unfold au;rw[e,f];exact⟨rfl,rfl⟩
 ·rw[Bool.not_eq_true]at q;have g:dq x=false:=q;unfold au eD fK;rw[q,g];exact⟨rfl,rfl⟩
theorem pI (x:Int)(a:0≤x)(b:x≤68374079):(au x).1.f1=(au (x/1440*1440)).1.f1∧(au x).1.f2=(au (x/1440*1440)).1.f2:=by obtain⟨c,d⟩:=xK x a b;obtain⟨y,m,k,h⟩:=q9 _ c d;have e:=(h x rfl a b).1;have f:=(h (x/1440*1440) (by rw[E1 a,E1 (by omega)];omega) (by omega) (by omega)).1;unfold au;rw[e,f];exact⟨rfl,rfl⟩
theorem dC (a:Int):Does E 38 [D7 a] [(true,DW ((au a).1)),D5 ((au a).2)]:=by exact vt a _ (sQ a).1
theorem lk (a:Int):Does E 45 [D7 a] [(true,DW ((au a).1)),D5 ((au a).2)]:=by exact u7 a _ (sQ a).2
noncomputable def du (a:Int):Option (Int):=cond (bA a 0 68374079) (some (Int.tmod (IntKind.wrap .i64 ((IntKind.wrap .i64 (Int.tdiv a 1440))+(4:Int))) 7)) (some ((-1:Int)))
theorem r5 (a:Int):Ans (du a) (fun r=>Does E 39 [D7 a] [DZ r]):=by
 unfold du;apply DO<;>intro b
 ·exact DL (DP Try.f39 [rT] (AD (DV (bG a 0 68374079) b)<|AN))
 ·exact DL (DP Try.f39 [rF] (AD (DV (bG a 0 68374079) b)<|AN))
noncomputable def gY (a:Int):Option (Int):=cond (dq a) (some (Int.tmod (IntKind.wrap .i64 ((IntKind.wrap .i64 (Int.tdiv a 1440))+(4:Int))) 7)) (some ((-1:Int)))
theorem rP (a:Int):Ans (gY a) (fun r=>Does E 53 [D7 a] [DZ r]):=by
 unfold gY;apply DO<;>intro b
 ·exact DL (DP Try.f53 [rT] (AD (DV (di a) b)<|AN))
 ·exact DL (DP Try.f53 [rF] (AD (DV (di a) b)<|AN))
noncomputable def ap (x:Int):Int:=(du x).getD 0
theorem wq (x:Int):du x=some (ap x)∧gY x=some (ap x):=by
 have e:gY x=du x:=rfl;rw[e];refine⟨?_,?_⟩ <;>
 ·refine Tot.getD ?_ _;unfold du;exact Tot.cond (Tot.some _) (Tot.some _)
theorem yQ (x:Int)(a:0≤x)(b:x≤68374079):ap x=ap (x/1440*1440):=by
 unfold ap du;rw[b9.2 ⟨a,b⟩,b9.2 ⟨(by omega:0≤x/1440*1440),by omega⟩,EG,EG];have:Int.tdiv x 1440=Int.tdiv (x/1440*1440) 1440:=by rw[E1 a,E1 (by omega)];omega
 rw[this]
theorem cX (a:Int):Does E 39 [D7 a] [DZ (ap a)]:=by exact r5 a _ (wq a).1
theorem dX (a:Int):Does E 53 [D7 a] [DZ (ap a)]:=by exact rP a _ (wq a).2
end
end Go.Proofs.Ytlhgcolciklecaa.Am
