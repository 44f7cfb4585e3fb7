/- Rules: what fires. -/
import Derived.Test.YtlhgcolciklecaaDays
namespace Go.Proofs.Ytlhgcolciklecaa.Am
open Go
set_option linter.unusedVariables false
set_option linter.unusedSimpArgs false
section
open Go.Proofs Classical
set_option maxRecDepth 100000
inductive qn where|ret (v4:Bool)|x0
def gE (a:List Int)(b v5:Int):US:=stL 18 [(0,.one (Ed 1 (a.map etI))),(1,D7 b),(5,D7 v5)]
def kf (a:Bool):US:=stL 18 [(4,D8 a)]
def kU  : US:=stL 18 []
abbrev mL:US→Exit→US→Prop:=Round E 28 (aI Try.f28 0)
def xu (b:List Int)(c v5:Int):qn→Prop| .ret a=>Loops E 28 (aI Try.f28 0) (gE b c v5) .ret (kf a)| .x0=>Loops E 28 (aI Try.f28 0) (gE b c v5) (.exit 0) (kU)
noncomputable def fw (a:Int):List Int→Nat→Option qn|[],i=>some (.x0)|hd::rest,i=>cond (hd==a) (some (.ret true)) (fw a rest (i+1))
theorem xt (a:List Int)(b:Int)(rest:List Int):∀(i:Nat) ,(a).drop i=rest→a.length≤9223372036854775807→Ans (fw b rest i) (xu a b (i:Int)):=by
 induction rest with
 |nil =>intro i c d;have hb:=eL c;unfold fw;exact DL (DN (show mL (gE a b (i:Int)) (.exit 0) (kU)from RP [Ea (a.length:Int),.b false] (ALn a etI<|AC hb<|AN)))
 |cons hd rest h =>
  intro i c d;have hb:=dL c;have j:=dM c d;have e:=cO c;have f:=eM c;unfold fw;apply DO<;>intro g
  ·exact DL (DN (show mL (gE a b (i:Int)) .ret (kf true)from RP [Ea (a.length:Int),.b true,.row (etI hd),.b true] (ALn a etI<|AC hb<|AR etI f<|AC g<|AN)))
  ·exact(h (i+1) e d).mono fun y k=>by have r:mL (gE a b (i:Int)) .normal (gE a b (inc (i:Int))):=RP [Ea (a.length:Int),.b true,.row (etI hd),.b false] (ALn a etI<|AC hb<|AR etI f<|AC g<|AN);rw[j]at r;cases y<;>exact DM r k
noncomputable def oh (b:List Int)(c:Int):Option (Bool):=
  if b.length≤9223372036854775807 then(fw c b 0).bind fun y=>match y with
   | .ret a=>(some (a))
   | .x0=>(some (false))else none
theorem yH (x0:List Int)(c:Int):Ans (oh x0 c) (fun r=>Does E 28 [.one (Ed 1 (x0.map etI)),D7 c] [D5 r]):=by
 unfold oh;apply DR;intro d;apply DQ;intro y b;replace b:=xt x0 c x0 0 rfl d y b;cases y with
 |ret a =>have e:=b;exact DL (DP Try.f28 [.lp .ret (kf a)] (AL e<|AN))
 |x0 =>have e:=b;exact DL (DP Try.f28 [.lp (.exit 0) (kU)] (AL e<|AN))
def bo (l:List Int)(x:Int):Bool:=l.any fun y=>y==x
theorem yr (x:Int):∀(rest:List Int)(i:Nat),fw x rest i=some (if bo rest x=true then .ret true else .x0)
 |[],i=>rfl
 |y::rest,i=>by unfold fw;rw[yr x rest (i+1)];unfold bo;rw[List.any_cons];cases y==x<;>rfl
theorem a5 (a:List Int)(b:Int)(h:a.length≤1050000):Does E 28 [.one (Ed 1 (a.map etI)),D7 b] [D5 (bo a b)]:=by exact yH a b _ (by unfold oh;rw[Ej (by omega),yr];cases q:bo a b<;>rfl)
inductive jh where|ret (v4:Int)|x0
def co (a:List Int)(b v7 v8:Int):US:=stL 19 [(0,.one (Ed 1 (a.map etI))),(1,D7 b),(7,D7 v7),(8,D7 v8)]
def eF (a:Int):US:=stL 19 [(4,D7 a)]
def e8  : US:=stL 19 []
abbrev fV:US→Exit→US→Prop:=Round E 40 (aI Try.f40 0)
def nc (b:List Int)(c v7 v8:Int):jh→Prop| .ret a=>Loops E 40 (aI Try.f40 0) (co b c v7 v8) .ret (eF a)| .x0=>Loops E 40 (aI Try.f40 0) (co b c v7 v8) (.exit 0) (e8)
noncomputable def bH (a:Int):List Int→Nat→Option jh|[],i=>some (.x0)|hd::rest,i=>cond (a==hd) (some (.ret (i:Int))) (bH a rest (i+1))
theorem nb (a:List Int)(b:Int)(rest:List Int):∀(i:Nat) ,(a).drop i=rest→a.length≤9223372036854775807→Ans (bH b rest i) (nc a b (a.length:Int) (i:Int)):=by
 induction rest with
 |nil =>intro i c d;have hb:=eL c;unfold bH;exact DL (DN (show fV (co a b (a.length:Int) (i:Int)) (.exit 0) (e8)from RP [.b false] (AC hb<|AN)))
 |cons hd rest h =>
  intro i c d;have hb:=dL c;have j:=dM c d;have e:=cO c;have f:=eM c;unfold bH;apply DO<;>intro g
  ·exact DL (DN (show fV (co a b (a.length:Int) (i:Int)) .ret (eF (i:Int))from RP [.b true,.row (etI hd),.b true] (AC hb<|AR etI f<|AC g<|AN)))
  ·exact(h (i+1) e d).mono fun y k=>by have r:fV (co a b (a.length:Int) (i:Int)) .normal (co a b (a.length:Int) (inc (i:Int))):=RP [.b true,.row (etI hd),.b false] (AC hb<|AR etI f<|AC g<|AN);rw[j]at r;cases y<;>exact DM r k
noncomputable def cJ (b:List Int)(c:Int):Option (Int):=
  if b.length≤9223372036854775807 then(bH c b 0).bind fun y=>match y with
   | .ret a=>(some (a))
   | .x0=>(some ((-1:Int)))else none
theorem oq (x0:List Int)(c:Int):Ans (cJ x0 c) (fun r=>Does E 40 [.one (Ed 1 (x0.map etI)),D7 c] [DZ r]):=by
 unfold cJ;apply DR;intro d;apply DQ;intro y b;replace b:=nb x0 c x0 0 rfl d y b;cases y with
 |ret a =>have e:=b;exact DL (DP Try.f40 [Ea (x0.length:Int),.lp .ret (eF a)] (ALn x0 etI<|AL e<|AN))
 |x0 =>have e:=b;exact DL (DP Try.f40 [Ea (x0.length:Int),.lp (.exit 0) (e8)] (ALn x0 etI<|AL e<|AN))
noncomputable def pp (l:List Int)(x:Int):Int:=(cJ l x).getD (-1)
theorem zK (x:Int):∀(rest:List Int)(i:Nat),(∃k:Nat,bH x rest i=some (.ret (k:Int))∧bo rest x=true)∨bH x rest i=some .x0∧bo rest x=false
 |[],i=>.inr ⟨rfl,rfl⟩
 |y::rest,i=>by
  have e:(x==y)=(y==x):=by cases q:y==x with|true=>rw[eq_of_beq q];simp|false=>exact FB.2 fun e=>by rw[e]at q;simp at q
  unfold bH bo;rw[List.any_cons,e];cases y==x with
  |true=>exact .inl ⟨i,rfl,rfl⟩
  |false=>exact zK x rest (i+1)
theorem ym (l:List Int)(x:Int)(h:l.length≤1050000):cJ l x=some (pp l x)∧decide (pp l x≥(0:Int))=bo l x:=by
 have e:∃r,cJ l x=some r∧decide (r≥(0:Int))=bo l x:=by
  unfold cJ;rw[Ej (by omega)];rcases zK x l 0 with⟨k,a,b⟩|⟨a,b⟩
  ·exact⟨(k:Int),by rw[a];rfl,by rw[b];exact EC (by omega)⟩
  ·exact⟨-1,by rw[a];rfl,by rw[b];rfl⟩
 obtain⟨r,a,b⟩:=e;have p:pp l x=r:=by unfold pp;rw[a];rfl
 rw[p];exact⟨a,b⟩
theorem nj (a:List Int)(b:Int)(h:a.length≤1050000):Does E 40 [.one (Ed 1 (a.map etI)),D7 b] [DZ (pp a b)]:=by exact oq a b _ (ym a b h).1
noncomputable def e7 (a:List Int)(b:Int):Option (Bool):=if a.length≤1050000 then some (decide ((pp a b)≥(0:Int)))else none
theorem l9 (a:List Int)(b:Int):Ans (e7 a b) (fun r=>Does E 29 [.one (Ed 1 (a.map etI)),D7 b] [D5 r]):=by unfold e7;apply DR;intro c;exact DL (DP Try.f29 [.ret [DZ (pp a b)]] (AD (nj a b c)<|AN))
theorem aw (a:List Int)(b:Int)(h:a.length≤1050000):Does E 29 [.one (Ed 1 (a.map etI)),D7 b] [D5 (bo a b)]:=by
 exact l9 a b _ (by
  unfold e7;try rw[Ej h]
  rw[(ym a b h).2])
inductive oi where|ret (v6:Bool)|x0
def cT (a:List Int)(b v2 v7:Int):US:=stL 41 [(0,.one (Ed 1 (a.map etI))),(1,D7 b),(2,D7 v2),(7,D7 v7)]
def f9 (a:Bool):US:=stL 41 [(6,D8 a)]
def jC (a:List Int):US:=stL 41 [(0,.one (Ed 1 (a.map etI)))]
abbrev gm:US→Exit→US→Prop:=Round E 37 (aI Try.f37 0)
def uo (a:List Int)(c v2 v7:Int):oi→Prop| .ret b=>Loops E 37 (aI Try.f37 0) (cT a c v2 v7) .ret (f9 b)| .x0=>Loops E 37 (aI Try.f37 0) (cT a c v2 v7) (.exit 0) (jC a)
noncomputable def dm (a:List Int)(b v2:Int):List Int→Nat→Option oi|[],i=>some (.x0)|hd::rest,i=>cond (bA hd b v2) (cond (decide ((i:Int)>(0:Int))) ((ba a (IntKind.wrap .i64 ((i:Int)-(1:Int)))).bind fun c=>cond (decide (c≥hd)) (some (.ret false)) (dm a b v2 rest (i+1))) (dm a b v2 rest (i+1))) (some (.ret false))
theorem un (a:List Int)(b v2:Int)(rest:List Int):∀(i:Nat) ,(a).drop i=rest→a.length≤9223372036854775807→Ans (dm a b v2 rest i) (uo a b v2 (i:Int)):=by
 induction rest with
 |nil =>intro i c f;have hb:=eL c;unfold dm;exact DL (DN (show gm (cT a b v2 (i:Int)) (.exit 0) (jC a)from RP [Ea (a.length:Int),.b false] (ALn a etI<|AC hb<|AN)))
 |cons hd rest k =>
  intro i c f;have hb:=dL c;have l:=dM c f;have e:=cO c;have d:=eM c;unfold dm;apply DO<;>intro g
  ·apply DO<;>intro h
   ·apply DQ;intro m n;apply DO<;>intro o
    ·exact DL (DN (show gm (cT a b v2 (i:Int)) .ret (f9 false)from RP [Ea (a.length:Int),.b true,.row (etI hd),rT,.b true,.row (etI m),.row (etI hd),.b true] (ALn a etI<|AC hb<|AR etI d<|AD (DV (bG hd b v2) g)<|AC h<|AR etI n<|AR etI d<|AC o<|AN)))
    ·exact(k (i+1) e f).mono fun y j=>by have r:gm (cT a b v2 (i:Int)) .normal (cT a b v2 (inc (i:Int))):=RP [Ea (a.length:Int),.b true,.row (etI hd),rT,.b true,.row (etI m),.row (etI hd),.b false] (ALn a etI<|AC hb<|AR etI d<|AD (DV (bG hd b v2) g)<|AC h<|AR etI n<|AR etI d<|AC o<|AN);rw[l]at r;cases y<;>exact DM r j
   ·exact(k (i+1) e f).mono fun y j=>by have r:gm (cT a b v2 (i:Int)) .normal (cT a b v2 (inc (i:Int))):=RP [Ea (a.length:Int),.b true,.row (etI hd),rT,.b false] (ALn a etI<|AC hb<|AR etI d<|AD (DV (bG hd b v2) g)<|AC h<|AN);rw[l]at r;cases y<;>exact DM r j
  ·exact DL (DN (show gm (cT a b v2 (i:Int)) .ret (f9 false)from RP [Ea (a.length:Int),.b true,.row (etI hd),rF] (ALn a etI<|AC hb<|AR etI d<|AD (DV (bG hd b v2) g)<|AN)))
noncomputable def lI (b:List Int)(c d:Int):Option (Bool):=
  if b.length≤9223372036854775807 then(dm b c d b 0).bind fun y=>match y with
   | .ret a=>(some (a))
   | .x0=>(some (decide ((b.length:Int)>(0:Int))))else none
theorem vC (x0:List Int)(c d:Int):Ans (lI x0 c d) (fun r=>Does E 37 [.one (Ed 1 (x0.map etI)),D7 c,D7 d] [D5 r]):=by
 unfold lI;apply DR;intro e;apply DQ;intro y b;replace b:=un x0 c d x0 0 rfl e y b;cases y with
 |ret a =>have f:=b;exact DL (DP Try.f37 [.lp .ret (f9 a)] (AL f<|AN))
 |x0 =>have f:=b;exact DL (DP Try.f37 [.lp (.exit 0) (jC x0),Ea (x0.length:Int)] (AL f<|ALn x0 etI<|AN))
def gS (a b:Int):List Int→Option Int→Bool
 |[],_=>true
 |x::l,p=>bA x a b&&(match p with|some y=>decide (y<x)|none=>true)&&gS a b l (some x)
def aU (l:List Int)(a b:Int):Bool:=gS a b l none&&decide ((l.length:Int)>0)
theorem vV {bj rest:List Int}{x:Int}{i:Nat}(h:bj.drop i=x::rest):i=0∨∃y,bj[i-1]?=some y:=by
 cases i with
 |zero=>exact .inl rfl
 |succ i =>
  right;have:i<bj.length:=by
   rcases Em i bj.length with g|g
   ·exact g
   ·rw[Fq (by omega)]at h;cases h
  exact⟨bj[i],by simp[this]⟩
def ep (bj:List Int)(i:Nat):Option Int:=if i=0 then none else bj[i-1]?
theorem rz {bj rest:List Int}{x:Int}{i:Nat}(h:bj.drop i=x::rest):ep bj (i+1)=some x:=by unfold ep;rw[Eu (by omega)];show bj[i]?=some x;rw[←List.head?_drop,h];rfl
theorem yv (bj:List Int)(a b:Int)(k:bj.length≤1050000):∀(rest:List Int)(i:Nat),bj.drop i=rest→dm bj a b rest i=some (if gS a b rest (ep bj i)=true then .x0 else .ret false)
 |[],i,_=>rfl
 |x::rest,i,h=>by
  have f:=yv bj a b k rest (i+1) (cO h);rw[rz h]at f;have hi:i<bj.length:=by
   rcases Em i bj.length with g|g
   ·exact g
   ·rw[Fq g]at h;cases h
  unfold dm gS;rw[f];cases bA x a b with
  |false=>rfl
  |true =>
   rw[EG,Gz];rcases vV h with rfl|⟨y,j⟩
   ·simp[ep]
   ·by_cases z:i=0
    ·subst z;simp[ep]
    ·have l:ep bj i=some y:=by unfold ep;rw[Eu z,j]
     have m:ba bj (IntKind.wrap .i64 ((i:Int)-1))=some y:=by
      rw[aF _ (by omega) (by omega)];have e:((i:Int)-1)=((i-1:Nat):Int):=by omega
      rw[e,jp,j]
     rw[l,m,EC (by omega:(i:Int)>0),EG,Eg];simp only;by_cases c:y≥x
     ·have d:¬y<x:=by omega
      rw[EC c,EG];simp[d]
     ·have d:y<x:=by omega
      rw[EA c,EP];simp[d]
theorem bv (a:List Int)(b:Int)(c:Int)(h:a.length≤1050000):Does E 37 [.one (Ed 1 (a.map etI)),D7 b,D7 c] [D5 (aU a b c)]:=by exact vC a b c _ (by unfold lI;rw[Ej (by omega),yv a b c h a 0 rfl];unfold aU ep;rw[Ej rfl];cases gS b c a none<;>rfl)
noncomputable def mI (a:GCron):Option (Bool):=if a.f0.length≤1050000 then cond (aU a.f0 0 59) (if a.f1.length≤1050000 then cond (aU a.f1 0 23) (if a.f2.length≤1050000 then cond (aU a.f2 1 31) (if a.f3.length≤1050000 then cond (aU a.f3 1 12) (if a.f4.length≤1050000 then some (aU a.f4 0 6)else none) (some (false))else none) (some (false))else none) (some (false))else none) (some (false))else none
theorem xm (a:GCron):Ans (mI a) (fun r=>Does E 25 [.agg (DX .far a)] [D5 r]):=by
 unfold mI;apply DR;intro b;apply DO<;>intro c
 ·apply DR;intro d;apply DO<;>intro e
  ·apply DR;intro f;apply DO<;>intro g
   ·apply DR;intro h;apply DO<;>intro i
    ·apply DR;intro j;exact DL (DP Try.f25 [rT,rT,rT,rT,.ret [D5 (aU a.f4 0 6)]] (AD (DV (bv a.f0 0 59 b) c)<|AD (DV (bv a.f1 0 23 d) e)<|AD (DV (bv a.f2 1 31 f) g)<|AD (DV (bv a.f3 1 12 h) i)<|AD (bv a.f4 0 6 j)<|AN))
    ·exact DL (DP Try.f25 [rT,rT,rT,rF] (AD (DV (bv a.f0 0 59 b) c)<|AD (DV (bv a.f1 0 23 d) e)<|AD (DV (bv a.f2 1 31 f) g)<|AD (DV (bv a.f3 1 12 h) i)<|AN))
   ·exact DL (DP Try.f25 [rT,rT,rF] (AD (DV (bv a.f0 0 59 b) c)<|AD (DV (bv a.f1 0 23 d) e)<|AD (DV (bv a.f2 1 31 f) g)<|AN))
  ·exact DL (DP Try.f25 [rT,rF] (AD (DV (bv a.f0 0 59 b) c)<|AD (DV (bv a.f1 0 23 d) e)<|AN))
 ·exact DL (DP Try.f25 [rF] (AD (DV (bv a.f0 0 59 b) c)<|AN))
def bg (c:GCron):Bool:=aU c.f0 0 59&&(aU c.f1 0 23&&(aU c.f2 1 31&&(aU c.f3 1 12&&aU c.f4 0 6)))
theorem fg (a:GCron)(h:aA.sm a):Does E 25 [.agg (DX .far a)] [D5 (bg a)]:=by exact xm a _ (by have b:=h.1.1;have c:=h.2.1.1;have d:=h.2.2.1.1;have e:=h.2.2.2.1.1;have f:=h.2.2.2.2.1;unfold mI bg;simp only[b,c,d,e,f,EV];cases aU a.f0 0 59<;>cases aU a.f1 0 23<;>cases aU a.f2 1 31<;>cases aU a.f3 1 12<;>rfl)
noncomputable def kj (a:Int):Option (Int×Int):=cond (a==(0:Int)) (some (0,59)) (cond (a==(1:Int)) (some (0,23)) (cond (a==(2:Int)) (some (1,31)) (cond (a==(3:Int)) (some (1,12)) (some (0,6)))))
theorem xa (d:Int):Ans (kj d) (fun r=>Does E 34 [D7 d] [DZ r.1,DZ r.2]):=by
 unfold kj;apply DO<;>intro a
 ·exact DL (DP Try.f34 [.b true] (AC a<|AN))
 ·apply DO<;>intro b
  ·exact DL (DP Try.f34 [.b false,.b true] (AC a<|AC b<|AN))
  ·apply DO<;>intro c
   ·exact DL (DP Try.f34 [.b false,.b false,.b true] (AC a<|AC b<|AC c<|AN))
   ·apply DO<;>intro e
    ·exact DL (DP Try.f34 [.b false,.b false,.b false,.b true] (AC a<|AC b<|AC c<|AC e<|AN))
    ·exact DL (DP Try.f34 [.b false,.b false,.b false,.b false] (AC a<|AC b<|AC c<|AC e<|AN))
noncomputable def aC (x:Int):Int×Int:=(kj x).getD (0,6)
theorem bI (a:Int):Does E 34 [D7 a] [DZ ((aC a).1),DZ ((aC a).2)]:=by exact xa a _ (by refine Tot.getD ?_ _;unfold kj;repeat' (first|exact Tot.some _|apply Tot.cond))
inductive oP where|ret (v2:Bool)|x2
def de (a b c d e:List Int)(v5 v6:Int)(v7:List Int)(f:Int)(g:List Int)(h i:Int):US:=stL 53 [(1,.box () [Ed 1 (a.map etI),Ed 1 (b.map etI),Ed 1 (c.map etI),Ed 1 (d.map etI),Ed 1 (e.map etI)]),(5,D7 v5),(6,D7 v6),(7,.one (Ed 1 (v7.map etI))),(10,.clo (.arr [0,1,2,3,4]) [1,1,1,1,1]),(11,D7 f),(23,.one (Ed 1 (g.map etI))),(24,D7 h),(25,D7 i)]
def cH (a:Bool):US:=stL 53 [(2,D8 a)]
def bJ (a b c d e v7:List Int)(f:Int):US:=stL 53 [(1,.box () [Ed 1 (a.map etI),Ed 1 (b.map etI),Ed 1 (c.map etI),Ed 1 (d.map etI),Ed 1 (e.map etI)]),(7,.one (Ed 1 (v7.map etI))),(10,.clo (.arr [0,1,2,3,4]) [1,1,1,1,1]),(11,D7 f)]
abbrev gP:US→Exit→US→Prop:=Round E 22 (aI Try.f22 1)
def vd (a b c d e:List Int)(v5 v6:Int)(v7:List Int)(f:Int)(g:List Int)(h i:Int):oP→Prop| .ret j=>Loops E 22 (aI Try.f22 1) (de a b c d e v5 v6 v7 f g h i) .ret (cH j)| .x2=>Loops E 22 (aI Try.f22 1) (de a b c d e v5 v6 v7 f g h i) (.exit 2) (bJ a b c d e v7 f)
noncomputable def bW (v5 v6:Int)(v7:List Int):List Int→Nat→Option oP|[],i=>some (.x2)|hd::rest,i=>cond (bA hd v5 v6) (cond (decide ((i:Int)>(0:Int))) ((ba v7 (IntKind.wrap .i64 ((i:Int)-(1:Int)))).bind fun a=>cond (decide (hd≤a)) (some (.ret false)) (bW v5 v6 v7 rest (i+1))) (bW v5 v6 v7 rest (i+1))) (some (.ret false))
theorem gQ (b c d e f:List Int)(v5 v6:Int)(v7:List Int)(g:Int)(a:List Int)(rest:List Int):∀(i:Nat) ,(a).drop i=rest→a.length≤9223372036854775807→Ans (bW v5 v6 v7 rest i) (vd b c d e f v5 v6 v7 g a (a.length:Int) (i:Int)):=by
 induction rest with
 |nil =>intro i h k;have hb:=eL h;unfold bW;exact DL (DN (show gP (de b c d e f v5 v6 v7 g a (a.length:Int) (i:Int)) (.exit 2) (bJ b c d e f v7 g)from RP [.b false] (AC hb<|AN)))
 |cons hd rest p =>
  intro i h k;have hb:=dL h;have q:=dM h k;have j:=cO h;have l:=eM h;unfold bW;apply DO<;>intro m
  ·apply DO<;>intro n
   ·apply DQ;intro s t;apply DO<;>intro u
    ·exact DL (DN (show gP (de b c d e f v5 v6 v7 g a (a.length:Int) (i:Int)) .ret (cH false)from RP [.b true,.row (etI hd),rT,.b true,.row (etI s),.b true] (AC hb<|AR etI l<|AD (DV (gK hd v5 v6) m)<|AC n<|AR etI t<|AC u<|AN)))
    ·exact(p (i+1) j k).mono fun y o=>by have r:gP (de b c d e f v5 v6 v7 g a (a.length:Int) (i:Int)) .normal (de b c d e f v5 v6 v7 g a (a.length:Int) (inc (i:Int))):=RP [.b true,.row (etI hd),rT,.b true,.row (etI s),.b false] (AC hb<|AR etI l<|AD (DV (gK hd v5 v6) m)<|AC n<|AR etI t<|AC u<|AN);rw[q]at r;cases y<;>exact DM r o
   ·exact(p (i+1) j k).mono fun y o=>by have r:gP (de b c d e f v5 v6 v7 g a (a.length:Int) (i:Int)) .normal (de b c d e f v5 v6 v7 g a (a.length:Int) (inc (i:Int))):=RP [.b true,.row (etI hd),rT,.b false] (AC hb<|AR etI l<|AD (DV (gK hd v5 v6) m)<|AC n<|AN);rw[q]at r;cases y<;>exact DM r o
  ·exact DL (DN (show gP (de b c d e f v5 v6 v7 g a (a.length:Int) (i:Int)) .ret (cH false)from RP [.b true,.row (etI hd),rF] (AC hb<|AR etI l<|AD (DV (gK hd v5 v6) m)<|AN)))
inductive lu where|ret (v2:Bool)|x0
def aR (a b c d e:List Int)(f:Int):US:=stL 53 [(1,.box () [Ed 1 (a.map etI),Ed 1 (b.map etI),Ed 1 (c.map etI),Ed 1 (d.map etI),Ed 1 (e.map etI)]),(10,.clo (.arr [0,1,2,3,4]) [1,1,1,1,1]),(11,D7 f)]
def bq (a:Bool):US:=stL 53 [(2,D8 a)]
def jY  : US:=stL 53 []
abbrev bp:US→Exit→US→Prop:=Round E 22 (aI Try.f22 0)
def vc (a b c d e:List Int)(f:Int):lu→Prop| .ret g=>Loops E 22 (aI Try.f22 0) (aR a b c d e f) .ret (bq g)| .x0=>Loops E 22 (aI Try.f22 0) (aR a b c d e f) (.exit 0) (jY)
noncomputable def aX (b c d e f:List Int):Nat→Int→Option lu
 | 0,_=>none
 |n+1,a=>cond (decide (a<(5:Int)))
  (cond (a==(0:Int))
   (if b.length≤9223372036854775807 then(bW ((aC a).1) ((aC a).2) b b 0).bind fun y=>match y with
    | .ret g=>(some (.ret g))
    | .x2=>(cond ((b.length:Int)==(0:Int))
     (some (.ret false))
     (aX b c d e f n (inc a)))else none)
   (cond (a==(1:Int))
    (if c.length≤9223372036854775807 then(bW ((aC a).1) ((aC a).2) c c 0).bind fun y=>match y with
     | .ret g=>(some (.ret g))
     | .x2=>(cond ((c.length:Int)==(0:Int))
      (some (.ret false))
      (aX b c d e f n (inc a)))else none)
    (cond (a==(2:Int))
     (if d.length≤9223372036854775807 then(bW ((aC a).1) ((aC a).2) d d 0).bind fun y=>match y with
      | .ret g=>(some (.ret g))
      | .x2=>(cond ((d.length:Int)==(0:Int))
       (some (.ret false))
       (aX b c d e f n (inc a)))else none)
     (cond (a==(3:Int))
      (if e.length≤9223372036854775807 then(bW ((aC a).1) ((aC a).2) e e 0).bind fun y=>match y with
       | .ret g=>(some (.ret g))
       | .x2=>(cond ((e.length:Int)==(0:Int))
        (some (.ret false))
        (aX b c d e f n (inc a)))else none)
      (if a=(4:Int)then if f.length≤9223372036854775807 then(bW ((aC a).1) ((aC a).2) f f 0).bind fun y=>match y with
       | .ret g=>(some (.ret g))
       | .x2=>(cond ((f.length:Int)==(0:Int))
        (some (.ret false))
        (aX b c d e f n (inc a)))else none else none)))))
  (some (.x0))
theorem u9 (b c d e f:List Int)(n:Nat):∀(a:Int),Ans (aX b c d e f n a) (vc b c d e f a):=by
 induction n with
 |zero=>intros;exact Ans.none
 |succ n s =>
  intro a;unfold aX;apply DO<;>intro i
  ·apply DO<;>intro t
   ·apply DR;intro u;apply DQ;intro y h;replace h:=gQ b c d e f ((aC a).1) ((aC a).2) b a b b 0 rfl u y h;cases y with
    |ret g =>have m:=h;exact DL (DN (show bp (aR b c d e f a) .ret (bq g)from RP [.b true,Ea 0,.ret [DZ ((aC a).1),DZ ((aC a).2)],Ea (b.length:Int),.lp .ret (cH g)] (AC i<|AC (p:=a=(0:Int)) (eq_of_beq t)<|AD (bI a)<|ALn b etI<|AL m<|AN)))
    |x2 =>
     have m:=h;apply DO<;>intro j
     ·exact DL (DN (show bp (aR b c d e f a) .ret (bq false)from RP [.b true,Ea 0,.ret [DZ ((aC a).1),DZ ((aC a).2)],Ea (b.length:Int),.lp (.exit 2) (bJ b c d e f b a),Ea (b.length:Int),.b true] (AC i<|AC (p:=a=(0:Int)) (eq_of_beq t)<|AD (bI a)<|ALn b etI<|AL m<|ALn b etI<|AC j<|AN)))
     ·have r:bp (aR b c d e f a) .normal (aR b c d e f (inc a)):=RP [.b true,Ea 0,.ret [DZ ((aC a).1),DZ ((aC a).2)],Ea (b.length:Int),.lp (.exit 2) (bJ b c d e f b a),Ea (b.length:Int),.b false] (AC i<|AC (p:=a=(0:Int)) (eq_of_beq t)<|AD (bI a)<|ALn b etI<|AL m<|ALn b etI<|AC j<|AN);exact(s (inc a)).mono fun y h=>by cases y<;>exact DM r h
   ·apply DO<;>intro m
    ·apply DR;intro v;apply DQ;intro y h;replace h:=gQ b c d e f ((aC a).1) ((aC a).2) c a c c 0 rfl v y h;cases y with
     |ret g =>have j:=h;exact DL (DN (show bp (aR b c d e f a) .ret (bq g)from RP [.b true,Ea 1,.ret [DZ ((aC a).1),DZ ((aC a).2)],Ea (c.length:Int),.lp .ret (cH g)] (AC i<|AC (p:=a=(1:Int)) (eq_of_beq m)<|AD (bI a)<|ALn c etI<|AL j<|AN)))
     |x2 =>
      have j:=h;apply DO<;>intro k
      ·exact DL (DN (show bp (aR b c d e f a) .ret (bq false)from RP [.b true,Ea 1,.ret [DZ ((aC a).1),DZ ((aC a).2)],Ea (c.length:Int),.lp (.exit 2) (bJ b c d e f c a),Ea (c.length:Int),.b true] (AC i<|AC (p:=a=(1:Int)) (eq_of_beq m)<|AD (bI a)<|ALn c etI<|AL j<|ALn c etI<|AC k<|AN)))
      ·have r:bp (aR b c d e f a) .normal (aR b c d e f (inc a)):=RP [.b true,Ea 1,.ret [DZ ((aC a).1),DZ ((aC a).2)],Ea (c.length:Int),.lp (.exit 2) (bJ b c d e f c a),Ea (c.length:Int),.b false] (AC i<|AC (p:=a=(1:Int)) (eq_of_beq m)<|AD (bI a)<|ALn c etI<|AL j<|ALn c etI<|AC k<|AN);exact(s (inc a)).mono fun y h=>by cases y<;>exact DM r h
    ·apply DO<;>intro j
     ·apply DR;intro w;apply DQ;intro y h;replace h:=gQ b c d e f ((aC a).1) ((aC a).2) d a d d 0 rfl w y h;cases y with
      |ret g =>have k:=h;exact DL (DN (show bp (aR b c d e f a) .ret (bq g)from RP [.b true,Ea 2,.ret [DZ ((aC a).1),DZ ((aC a).2)],Ea (d.length:Int),.lp .ret (cH g)] (AC i<|AC (p:=a=(2:Int)) (eq_of_beq j)<|AD (bI a)<|ALn d etI<|AL k<|AN)))
      |x2 =>
       have k:=h;apply DO<;>intro l
       ·exact DL (DN (show bp (aR b c d e f a) .ret (bq false)from RP [.b true,Ea 2,.ret [DZ ((aC a).1),DZ ((aC a).2)],Ea (d.length:Int),.lp (.exit 2) (bJ b c d e f d a),Ea (d.length:Int),.b true] (AC i<|AC (p:=a=(2:Int)) (eq_of_beq j)<|AD (bI a)<|ALn d etI<|AL k<|ALn d etI<|AC l<|AN)))
       ·have r:bp (aR b c d e f a) .normal (aR b c d e f (inc a)):=RP [.b true,Ea 2,.ret [DZ ((aC a).1),DZ ((aC a).2)],Ea (d.length:Int),.lp (.exit 2) (bJ b c d e f d a),Ea (d.length:Int),.b false] (AC i<|AC (p:=a=(2:Int)) (eq_of_beq j)<|AD (bI a)<|ALn d etI<|AL k<|ALn d etI<|AC l<|AN);exact(s (inc a)).mono fun y h=>by cases y<;>exact DM r h
     ·apply DO<;>intro k
      ·apply DR;intro o;apply DQ;intro y h;replace h:=gQ b c d e f ((aC a).1) ((aC a).2) e a e e 0 rfl o y h;cases y with
       |ret g =>have l:=h;exact DL (DN (show bp (aR b c d e f a) .ret (bq g)from RP [.b true,Ea 3,.ret [DZ ((aC a).1),DZ ((aC a).2)],Ea (e.length:Int),.lp .ret (cH g)] (AC i<|AC (p:=a=(3:Int)) (eq_of_beq k)<|AD (bI a)<|ALn e etI<|AL l<|AN)))
       |x2 =>
        have l:=h;apply DO<;>intro q
        ·exact DL (DN (show bp (aR b c d e f a) .ret (bq false)from RP [.b true,Ea 3,.ret [DZ ((aC a).1),DZ ((aC a).2)],Ea (e.length:Int),.lp (.exit 2) (bJ b c d e f e a),Ea (e.length:Int),.b true] (AC i<|AC (p:=a=(3:Int)) (eq_of_beq k)<|AD (bI a)<|ALn e etI<|AL l<|ALn e etI<|AC q<|AN)))
        ·have r:bp (aR b c d e f a) .normal (aR b c d e f (inc a)):=RP [.b true,Ea 3,.ret [DZ ((aC a).1),DZ ((aC a).2)],Ea (e.length:Int),.lp (.exit 2) (bJ b c d e f e a),Ea (e.length:Int),.b false] (AC i<|AC (p:=a=(3:Int)) (eq_of_beq k)<|AD (bI a)<|ALn e etI<|AL l<|ALn e etI<|AC q<|AN);exact(s (inc a)).mono fun y h=>by cases y<;>exact DM r h
      ·apply DR;intro l;apply DR;intro o;apply DQ;intro y h;replace h:=gQ b c d e f ((aC a).1) ((aC a).2) f a f f 0 rfl o y h;cases y with
       |ret g =>have q:=h;exact DL (DN (show bp (aR b c d e f a) .ret (bq g)from RP [.b true,Ea 4,.ret [DZ ((aC a).1),DZ ((aC a).2)],Ea (f.length:Int),.lp .ret (cH g)] (AC i<|AC l<|AD (bI a)<|ALn f etI<|AL q<|AN)))
       |x2 =>
        have q:=h;apply DO<;>intro x
        ·exact DL (DN (show bp (aR b c d e f a) .ret (bq false)from RP [.b true,Ea 4,.ret [DZ ((aC a).1),DZ ((aC a).2)],Ea (f.length:Int),.lp (.exit 2) (bJ b c d e f f a),Ea (f.length:Int),.b true] (AC i<|AC l<|AD (bI a)<|ALn f etI<|AL q<|ALn f etI<|AC x<|AN)))
        ·have r:bp (aR b c d e f a) .normal (aR b c d e f (inc a)):=RP [.b true,Ea 4,.ret [DZ ((aC a).1),DZ ((aC a).2)],Ea (f.length:Int),.lp (.exit 2) (bJ b c d e f f a),Ea (f.length:Int),.b false] (AC i<|AC l<|AD (bI a)<|ALn f etI<|AL q<|ALn f etI<|AC x<|AN);exact(s (inc a)).mono fun y h=>by cases y<;>exact DM r h
  ·exact DL (DN (show bp (aR b c d e f a) (.exit 0) (jY)from RP [.b false] (AC i<|AN)))
noncomputable def ki (a:GCron):Option (Bool):=
  (aX a.f0 a.f1 a.f2 a.f3 a.f4 9223372036854775808 0).bind fun y=>match y with
   | .ret b=>(some (b))
   | .x0=>(some (true))
theorem w7 (x0:GCron):Ans (ki x0) (fun r=>Does E 22 [.agg (DX .far x0)] [D5 r]):=by
 unfold ki;apply DQ;intro y b;replace b:=u9 x0.f0 x0.f1 x0.f2 x0.f3 x0.f4 9223372036854775808 0 y b;cases y with
 |ret a =>have c:=b;exact DL (DP Try.f22 [.lp .ret (bq a)] (AL c<|AN))
 |x0 =>have c:=b;exact DL (DP Try.f22 [.lp (.exit 0) (jY)] (AL c<|AN))
theorem xJ (bj:List Int)(a b:Int)(k:bj.length≤1050000):∀(rest:List Int)(i:Nat),bj.drop i=rest→bW a b bj rest i=some (if gS a b rest (ep bj i)=true then .x2 else .ret false)
 |[],i,_=>rfl
 |x::rest,i,h=>by
  have f:=xJ bj a b k rest (i+1) (cO h);rw[rz h]at f;have hi:i<bj.length:=by
   rcases Em i bj.length with g|g
   ·exact g
   ·rw[Fq g]at h;cases h
  unfold bW gS;rw[f];cases bA x a b with
  |false=>rfl
  |true =>
   rw[EG,Gz];rcases vV h with rfl|⟨y,j⟩
   ·simp[ep]
   ·by_cases z:i=0
    ·subst z;simp[ep]
    ·have l:ep bj i=some y:=by unfold ep;rw[Eu z,j]
     have m:ba bj (IntKind.wrap .i64 ((i:Int)-1))=some y:=by
      rw[aF _ (by omega) (by omega)];have e:((i:Int)-1)=((i-1:Nat):Int):=by omega
      rw[e,jp,j]
     rw[l,m,EC (by omega:(i:Int)>0),EG,Eg];simp only;by_cases c:y≥x
     ·have d:¬y<x:=by omega
      rw[EC (show x≤y from c),EG];simp[d]
     ·have d:y<x:=by omega
      rw[EA (show ¬x≤y from c),EP];simp[d]
theorem iM (l:List Int)(a b:Int)(c:l.length≤1050000)(K:Option lu):
  ((bW a b l l 0).bind fun y=>match y with
    | .ret w=>some (.ret w)
    | .x2=>cond ((l.length:Int)==(0:Int)) (some (.ret false)) K)=(cond (aU l a b) K (some (.ret false))):=by
 rw[xJ l a b c l 0 rfl];unfold aU ep;rw[Ej rfl];cases gS a b l none with
 |false=>rfl
 |true =>
  simp only[EV,Eg,Gz];cases l with
  |nil=>rfl
  |cons x l =>rw[show(((x::l).length:Int)==(0:Int))=false from FB.2 (by simp<;>omega),EC (by simp<;>omega)];rfl
theorem y0 (c:GCron)(h:aA.sm c):ki c=some (bg c):=by
 have a:=h.1.1;have b:=h.2.1.1;have d:=h.2.2.1.1;have e:=h.2.2.2.1.1;have f:=h.2.2.2.2.1;unfold ki;have g:∀n,aX c.f0 c.f1 c.f2 c.f3 c.f4 (n+6) 0=some (if bg c=true then .x0 else .ret false):=by
  intro n;have i:aX c.f0 c.f1 c.f2 c.f3 c.f4 (n+1) (inc (inc (inc (inc (inc 0)))))=some .x0:=rfl;have j:aX c.f0 c.f1 c.f2 c.f3 c.f4 (n+2) (inc (inc (inc (inc 0))))=cond (aU c.f4 0 6) (some .x0) (some (.ret false)):=by
   rw[←iM c.f4 0 6 f, ←i]
   conv=>lhs;unfold aX
   show(if inc (inc (inc (inc 0)))=4 then(if c.f4.length≤9223372036854775807 then _ else none)else none)=_;rw[Ej (by rfl),Ej (by omega)];rfl
  have k:aX c.f0 c.f1 c.f2 c.f3 c.f4 (n+3) (inc (inc (inc 0)))=cond (aU c.f3 1 12) (cond (aU c.f4 0 6) (some .x0) (some (.ret false))) (some (.ret false)):=by
   rw[←iM c.f3 1 12 e, ←j]
   conv=>lhs;unfold aX
   show(if c.f3.length≤9223372036854775807 then _ else none)=_;rw[Ej (by omega)];rfl
  have l:aX c.f0 c.f1 c.f2 c.f3 c.f4 (n+4) (inc (inc 0))=cond (aU c.f2 1 31) (cond (aU c.f3 1 12) (cond (aU c.f4 0 6) (some .x0) (some (.ret false))) (some (.ret false))) (some (.ret false)):=by
   rw[←iM c.f2 1 31 d, ←k]
   conv=>lhs;unfold aX
   show(if c.f2.length≤9223372036854775807 then _ else none)=_;rw[Ej (by omega)];rfl
  have m:aX c.f0 c.f1 c.f2 c.f3 c.f4 (n+5) (inc 0)=cond (aU c.f1 0 23) (cond (aU c.f2 1 31) (cond (aU c.f3 1 12) (cond (aU c.f4 0 6) (some .x0) (some (.ret false))) (some (.ret false))) (some (.ret false))) (some (.ret false)):=by
   rw[←iM c.f1 0 23 b, ←l]
   conv=>lhs;unfold aX
   show(if c.f1.length≤9223372036854775807 then _ else none)=_;rw[Ej (by omega)];rfl
  have o:aX c.f0 c.f1 c.f2 c.f3 c.f4 (n+6) 0=cond (aU c.f0 0 59) (cond (aU c.f1 0 23) (cond (aU c.f2 1 31) (cond (aU c.f3 1 12) (cond (aU c.f4 0 6) (some .x0) (some (.ret false))) (some (.ret false))) (some (.ret false))) (some (.ret false))) (some (.ret false)):=by
   rw[←iM c.f0 0 59 a, ←m]
   conv=>lhs;unfold aX
   show(if c.f0.length≤9223372036854775807 then _ else none)=_;rw[Ej (by omega)];rfl
  rw[o];unfold bg;cases aU c.f0 0 59<;>cases aU c.f1 0 23<;>cases aU c.f2 1 31<;>cases aU c.f3 1 12<;>cases aU c.f4 0 6<;>rfl
 rw[g 9223372036854775802];cases bg c<;>rfl
theorem mf (a:GCron)(h:aA.sm a):Does E 22 [.agg (DX .far a)] [D5 (bg a)]:=by exact w7 a _ (y0 a h)
noncomputable def nK (b:List Int)(a:Int):Option (Bool):=some ((b.length:Int)==(inc (IntKind.wrap .i64 (((aC a).2)-((aC a).1)))))
theorem yl (b:List Int)(a:Int):Ans (nK b a) (fun r=>Does E 54 [.one (Ed 1 (b.map etI)),D7 a] [D5 r]):=by unfold nK;exact DL (DP Try.f54 [.ret [DZ ((aC a).1),DZ ((aC a).2)],Ea (b.length:Int)] (AD (bI a)<|ALn b etI<|AN))
noncomputable def mC (l:List Int)(i:Int):Bool:=(nK l i).getD false
theorem vX (l:List Int):mC l 2=((l.length:Int)==31):=rfl
theorem vY (l:List Int):mC l 4=((l.length:Int)==7):=rfl
theorem dB (a:List Int)(b:Int):Does E 54 [.one (Ed 1 (a.map etI)),D7 b] [D5 (mC a b)]:=by exact yl a b _ rfl
noncomputable def mK (a:GCron)(b:Int):Option (Bool):=if a.f2.length≤1050000 then cond (bo a.f2 (((au b).1).f2)) (if a.f4.length≤1050000 then if a.f3.length≤1050000 then cond (bo a.f3 (((au b).1).f1)) (cond ((a.f2.length:Int)==(31:Int)) (some (bo a.f4 (ap b))) (cond ((a.f4.length:Int)==(7:Int)) (some (bo a.f4 (ap b))) (some (true)))) (some (false))else none else none) (if a.f4.length≤1050000 then if a.f3.length≤1050000 then cond (bo a.f3 (((au b).1).f1)) (cond ((a.f2.length:Int)==(31:Int)) (some (false)) (cond ((a.f4.length:Int)==(7:Int)) (some (false)) (some (bo a.f4 (ap b))))) (some (false))else none else none)else none
theorem xr (b:GCron)(a:Int):Ans (mK b a) (fun r=>Does E 27 [.agg (DX .far b),D7 a] [D5 r]):=by
 unfold mK;apply DR;intro c;apply DO<;>intro f1
 ·apply DR;intro f2;apply DR;intro f3;apply DO<;>intro f4
  ·apply DO<;>intro d
   ·exact DL (DP Try.f27 [.ret [(true,DW ((au a).1)),D5 ((au a).2)],rT,.ret [DZ (ap a)],.ret [D5 (bo b.f4 (ap a))],rT,Ea (b.f2.length:Int),.b true] (AD (dC a)<|AD (DV (a5 b.f2 (((au a).1).f2) c) f1)<|AD (cX a)<|AD (a5 b.f4 (ap a) f2)<|AD (DV (a5 b.f3 (((au a).1).f1) f3) f4)<|ALn b.f2 etI<|AC d<|AN))
   ·apply DO<;>intro e
    ·exact DL (DP Try.f27 [.ret [(true,DW ((au a).1)),D5 ((au a).2)],rT,.ret [DZ (ap a)],.ret [D5 (bo b.f4 (ap a))],rT,Ea (b.f2.length:Int),.b false,Ea (b.f4.length:Int),.b true] (AD (dC a)<|AD (DV (a5 b.f2 (((au a).1).f2) c) f1)<|AD (cX a)<|AD (a5 b.f4 (ap a) f2)<|AD (DV (a5 b.f3 (((au a).1).f1) f3) f4)<|ALn b.f2 etI<|AC d<|ALn b.f4 etI<|AC e<|AN))
    ·exact DL (DP Try.f27 [.ret [(true,DW ((au a).1)),D5 ((au a).2)],rT,.ret [DZ (ap a)],.ret [D5 (bo b.f4 (ap a))],rT,Ea (b.f2.length:Int),.b false,Ea (b.f4.length:Int),.b false] (AD (dC a)<|AD (DV (a5 b.f2 (((au a).1).f2) c) f1)<|AD (cX a)<|AD (a5 b.f4 (ap a) f2)<|AD (DV (a5 b.f3 (((au a).1).f1) f3) f4)<|ALn b.f2 etI<|AC d<|ALn b.f4 etI<|AC e<|AN))
  ·exact DL (DP Try.f27 [.ret [(true,DW ((au a).1)),D5 ((au a).2)],.ret [D5 (bo b.f2 (((au a).1).f2))],.ret [DZ (ap a)],.ret [D5 (bo b.f4 (ap a))],rF] (AD (dC a)<|AD (a5 b.f2 (((au a).1).f2) c)<|AD (cX a)<|AD (a5 b.f4 (ap a) f2)<|AD (DV (a5 b.f3 (((au a).1).f1) f3) f4)<|AN))
 ·apply DR;intro f5;apply DR;intro f6;apply DO<;>intro f7
  ·apply DO<;>intro d
   ·exact DL (DP Try.f27 [.ret [(true,DW ((au a).1)),D5 ((au a).2)],rF,.ret [DZ (ap a)],.ret [D5 (bo b.f4 (ap a))],rT,Ea (b.f2.length:Int),.b true] (AD (dC a)<|AD (DV (a5 b.f2 (((au a).1).f2) c) f1)<|AD (cX a)<|AD (a5 b.f4 (ap a) f5)<|AD (DV (a5 b.f3 (((au a).1).f1) f6) f7)<|ALn b.f2 etI<|AC d<|AN))
   ·apply DO<;>intro e
    ·exact DL (DP Try.f27 [.ret [(true,DW ((au a).1)),D5 ((au a).2)],rF,.ret [DZ (ap a)],.ret [D5 (bo b.f4 (ap a))],rT,Ea (b.f2.length:Int),.b false,Ea (b.f4.length:Int),.b true] (AD (dC a)<|AD (DV (a5 b.f2 (((au a).1).f2) c) f1)<|AD (cX a)<|AD (a5 b.f4 (ap a) f5)<|AD (DV (a5 b.f3 (((au a).1).f1) f6) f7)<|ALn b.f2 etI<|AC d<|ALn b.f4 etI<|AC e<|AN))
    ·exact DL (DP Try.f27 [.ret [(true,DW ((au a).1)),D5 ((au a).2)],rF,.ret [DZ (ap a)],.ret [D5 (bo b.f4 (ap a))],rT,Ea (b.f2.length:Int),.b false,Ea (b.f4.length:Int),.b false] (AD (dC a)<|AD (DV (a5 b.f2 (((au a).1).f2) c) f1)<|AD (cX a)<|AD (a5 b.f4 (ap a) f5)<|AD (DV (a5 b.f3 (((au a).1).f1) f6) f7)<|ALn b.f2 etI<|AC d<|ALn b.f4 etI<|AC e<|AN))
  ·exact DL (DP Try.f27 [.ret [(true,DW ((au a).1)),D5 ((au a).2)],.ret [D5 (bo b.f2 (((au a).1).f2))],.ret [DZ (ap a)],.ret [D5 (bo b.f4 (ap a))],rF] (AD (dC a)<|AD (a5 b.f2 (((au a).1).f2) c)<|AD (cX a)<|AD (a5 b.f4 (ap a) f5)<|AD (DV (a5 b.f3 (((au a).1).f1) f6) f7)<|AN))
noncomputable def kK (a:GCron)(b:Int)(c:GCivil):Option (Bool):=if a.f3.length≤1050000 then cond (bo a.f3 c.f1) (if a.f2.length≤1050000 then cond (bo a.f2 c.f2) (if a.f4.length≤1050000 then cond (mC a.f2 2) (some (bo a.f4 (ap b))) (cond (mC a.f4 4) (some (bo a.f4 (ap b))) (some (true)))else none) (if a.f4.length≤1050000 then cond (mC a.f2 2) (some (false)) (cond (mC a.f4 4) (some (false)) (some (bo a.f4 (ap b))))else none)else none) (some (false))else none
theorem tD (a:GCron)(b:Int)(c:GCivil):Ans (kK a b c) (fun r=>Does E 46 [.agg (DX .far a),D7 b,.agg (DW c)] [D5 r]):=by
 unfold kK;apply DR;intro d;apply DO<;>intro e
 ·apply DR;intro h;apply DO<;>intro i
  ·apply DR;intro f;apply DO<;>intro g
   ·exact DL (DP Try.f46 [rT,rT,.ret [DZ (ap b)],.ret [D5 (bo a.f4 (ap b))],rT] (AD (DV (aw a.f3 c.f1 d) e)<|AD (DV (aw a.f2 c.f2 h) i)<|AD (dX b)<|AD (aw a.f4 (ap b) f)<|AD (DV (dB a.f2 2) g)<|AN))
   ·apply DO<;>intro j
    ·exact DL (DP Try.f46 [rT,rT,.ret [DZ (ap b)],.ret [D5 (bo a.f4 (ap b))],rF,rT] (AD (DV (aw a.f3 c.f1 d) e)<|AD (DV (aw a.f2 c.f2 h) i)<|AD (dX b)<|AD (aw a.f4 (ap b) f)<|AD (DV (dB a.f2 2) g)<|AD (DV (dB a.f4 4) j)<|AN))
    ·exact DL (DP Try.f46 [rT,rT,.ret [DZ (ap b)],.ret [D5 (bo a.f4 (ap b))],rF,rF] (AD (DV (aw a.f3 c.f1 d) e)<|AD (DV (aw a.f2 c.f2 h) i)<|AD (dX b)<|AD (aw a.f4 (ap b) f)<|AD (DV (dB a.f2 2) g)<|AD (DV (dB a.f4 4) j)<|AN))
  ·apply DR;intro f;apply DO<;>intro g
   ·exact DL (DP Try.f46 [rT,rF,.ret [DZ (ap b)],.ret [D5 (bo a.f4 (ap b))],rT] (AD (DV (aw a.f3 c.f1 d) e)<|AD (DV (aw a.f2 c.f2 h) i)<|AD (dX b)<|AD (aw a.f4 (ap b) f)<|AD (DV (dB a.f2 2) g)<|AN))
   ·apply DO<;>intro j
    ·exact DL (DP Try.f46 [rT,rF,.ret [DZ (ap b)],.ret [D5 (bo a.f4 (ap b))],rF,rT] (AD (DV (aw a.f3 c.f1 d) e)<|AD (DV (aw a.f2 c.f2 h) i)<|AD (dX b)<|AD (aw a.f4 (ap b) f)<|AD (DV (dB a.f2 2) g)<|AD (DV (dB a.f4 4) j)<|AN))
    ·exact DL (DP Try.f46 [rT,rF,.ret [DZ (ap b)],.ret [D5 (bo a.f4 (ap b))],rF,rF] (AD (DV (aw a.f3 c.f1 d) e)<|AD (DV (aw a.f2 c.f2 h) i)<|AD (dX b)<|AD (aw a.f4 (ap b) f)<|AD (DV (dB a.f2 2) g)<|AD (DV (dB a.f4 4) j)<|AN))
 ·exact DL (DP Try.f46 [rF] (AD (DV (aw a.f3 c.f1 d) e)<|AN))
noncomputable def ge (c:GCron)(m:Int)(v:GCivil):Bool :=bo c.f3 v.f1&&(cond (((c.f2.length:Int)==31)||((c.f4.length:Int)==7)) (bo c.f2 v.f2&&bo c.f4 (ap m)) (bo c.f2 v.f2 ||bo c.f4 (ap m)))
noncomputable def jH (c:GCron)(m:Int):Bool:=ge c m (au m).1
theorem mj (a:GCron)(b:Int)(h:aA.sm a):Does E 27 [.agg (DX .far a),D7 b] [D5 (jH a b)]:=by exact xr a b _ (by have c:=h.2.2.1.1;have d:=h.2.2.2.1.1;have e:=h.2.2.2.2.1;unfold mK jH ge;simp only[c,d,e,EV,vX,vY];cases bo a.f3 (au b).1.f1<;>cases bo a.f2 (au b).1.f2<;>cases(a.f2.length:Int)==31<;>cases(a.f4.length:Int)==7<;>simp)
theorem kz (a:GCron)(c:Int)(b:GCivil)(h:aA.sm a):Does E 46 [.agg (DX .far a),D7 c,.agg (DW b)] [D5 (ge a c b)]:=by exact tD a c b _ (by have d:=h.2.2.1.1;have e:=h.2.2.2.1.1;have f:=h.2.2.2.2.1;unfold kK ge;simp only[d,e,f,EV,vX,vY];cases bo a.f3 b.f1<;>cases bo a.f2 b.f2<;>cases(a.f2.length:Int)==31<;>cases(a.f4.length:Int)==7<;>simp)
theorem y3 (c:GCron)(x:Int)(a:0≤x)(b:x≤68374079):ge c x (au x).1=jH c (x/1440*1440):=by unfold jH ge;rw[(pI x a b).1,(pI x a b).2,yQ x a b]
theorem wg {a b:Int}:∀{l:List Int}{p:Option Int},gS a b l p=true→∀x∈l,a≤x∧x≤b
 |[],_,_,x,hx=>by cases hx
 |y::l,p,h,x,hx=>by
  unfold gS at h;simp only[EF]at h;rcases ER.1 hx with rfl|hx
  ·exact b9.1 h.1.1
  ·exact wg h.2 x hx
theorem wb {l:List Int}{a b:Int}(h:aU l a b=true):∀x∈l,a≤x∧x≤b:=by unfold aU at h;rw[EF]at h;exact wg h.1
theorem mp {c:GCron}(h:bg c=true):(∀x∈c.f0,0≤x∧x≤59)∧∀x∈c.f1,0≤x∧x≤23:=by unfold bg at h;simp only[EF]at h;exact⟨wb h.1,wb h.2.1⟩
inductive oR where|ret (v4:Int) (v5:Bool)|x2
def fM (g:Int)(v2_0 v2_1 v2_2 v2_3 v2_4:List Int)(v6 v8:Int)(a:List Int)(b c:Int)(d:List Int)(e f:Int):US:=stL 42 [(1,D7 g),(2,.box () [Ed 1 (v2_0.map etI),Ed 1 (v2_1.map etI),Ed 1 (v2_2.map etI),Ed 1 (v2_3.map etI),Ed 1 (v2_4.map etI)]),(6,D7 v6),(8,D7 v8),(17,.one (Ed 1 (a.map etI))),(18,D7 b),(19,D7 c),(24,.one (Ed 1 (d.map etI))),(25,D7 e),(26,D7 f)]
def ju (a:Int)(b:Bool):US:=stL 42 [(4,D7 a),(5,D8 b)]
def j7 (d:Int)(v2_0 v2_1 v2_2 v2_3 v2_4:List Int)(v6:Int)(a:List Int)(b c:Int):US:=stL 42 [(1,D7 d),(2,.box () [Ed 1 (v2_0.map etI),Ed 1 (v2_1.map etI),Ed 1 (v2_2.map etI),Ed 1 (v2_3.map etI),Ed 1 (v2_4.map etI)]),(6,D7 v6),(17,.one (Ed 1 (a.map etI))),(18,D7 b),(19,D7 c)]
abbrev lz:US→Exit→US→Prop:=Round E 47 (aI Try.f47 1)
def vi (g:Int)(v2_0 v2_1 v2_2 v2_3 v2_4:List Int)(v6 v8:Int)(a:List Int)(b c:Int)(d:List Int)(e f:Int):oR→Prop| .ret h i=>Loops E 47 (aI Try.f47 1) (fM g v2_0 v2_1 v2_2 v2_3 v2_4 v6 v8 a b c d e f) .ret (ju h i)| .x2=>Loops E 47 (aI Try.f47 1) (fM g v2_0 v2_1 v2_2 v2_3 v2_4 v6 v8 a b c d e f) (.exit 2) (j7 g v2_0 v2_1 v2_2 v2_3 v2_4 v6 a b c)
noncomputable def dg (a v6 v8:Int):List Int→Nat→Option oR|[],i=>some (.x2)|hd::rest,i=>cond (decide ((IntKind.wrap .i64 ((IntKind.wrap .i64 (v6+(IntKind.wrap .i64 (v8*(60:Int)))))+hd))≥a)) (some (.ret (IntKind.wrap .i64 ((IntKind.wrap .i64 (v6+(IntKind.wrap .i64 (v8*(60:Int)))))+hd)) true)) (dg a v6 v8 rest (i+1))
theorem vg (e:Int)(v2_0 v2_1 v2_2 v2_3 v2_4:List Int)(v6 v8:Int)(b:List Int)(c d:Int)(a:List Int)(rest:List Int):∀(i:Nat) ,(a).drop i=rest→a.length≤9223372036854775807→Ans (dg e v6 v8 rest i) (vi e v2_0 v2_1 v2_2 v2_3 v2_4 v6 v8 b c d a (a.length:Int) (i:Int)):=by
 induction rest with
 |nil =>intro i f g;have hb:=eL f;unfold dg;exact DL (DN (show lz (fM e v2_0 v2_1 v2_2 v2_3 v2_4 v6 v8 b c d a (a.length:Int) (i:Int)) (.exit 2) (j7 e v2_0 v2_1 v2_2 v2_3 v2_4 v6 b c d)from RP [.b false] (AC hb<|AN)))
 |cons hd rest l =>
  intro i f g;have hb:=dL f;have m:=dM f g;have h:=cO f;have j:=eM f;unfold dg;apply DO<;>intro k
  ·exact DL (DN (show lz (fM e v2_0 v2_1 v2_2 v2_3 v2_4 v6 v8 b c d a (a.length:Int) (i:Int)) .ret (ju (IntKind.wrap .i64 ((IntKind.wrap .i64 (v6+(IntKind.wrap .i64 (v8*(60:Int)))))+hd)) true)from RP [.b true,.row (etI hd),.no,.no,.no,.b true] (AC hb<|AR etI j<|AC k<|AN)))
  ·exact(l (i+1) h g).mono fun y n=>by have r:lz (fM e v2_0 v2_1 v2_2 v2_3 v2_4 v6 v8 b c d a (a.length:Int) (i:Int)) .normal (fM e v2_0 v2_1 v2_2 v2_3 v2_4 v6 v8 b c d a (a.length:Int) (inc (i:Int))):=RP [.b true,.row (etI hd),.no,.no,.no,.b false] (AC hb<|AR etI j<|AC k<|AN);rw[m]at r;cases y<;>exact DM r n
inductive oQ where|ret (v4:Int) (v5:Bool)|x0
def fL (d:Int)(v2_0 v2_1 v2_2 v2_3 v2_4:List Int)(v6:Int)(a:List Int)(b c:Int):US:=stL 42 [(1,D7 d),(2,.box () [Ed 1 (v2_0.map etI),Ed 1 (v2_1.map etI),Ed 1 (v2_2.map etI),Ed 1 (v2_3.map etI),Ed 1 (v2_4.map etI)]),(6,D7 v6),(17,.one (Ed 1 (a.map etI))),(18,D7 b),(19,D7 c)]
def jt (a:Int)(b:Bool):US:=stL 42 [(4,D7 a),(5,D8 b)]
def j6  : US:=stL 42 []
abbrev lw:US→Exit→US→Prop:=Round E 47 (aI Try.f47 0)
def vh (f:Int)(v2_0 v2_1 v2_2 v2_3 v2_4:List Int)(v6:Int)(a:List Int)(b c:Int):oQ→Prop| .ret d e=>Loops E 47 (aI Try.f47 0) (fL f v2_0 v2_1 v2_2 v2_3 v2_4 v6 a b c) .ret (jt d e)| .x0=>Loops E 47 (aI Try.f47 0) (fL f v2_0 v2_1 v2_2 v2_3 v2_4 v6 a b c) (.exit 0) (j6)
noncomputable def df (c:Int)(v2_0:List Int)(v6:Int):List Int→Nat→Option oQ
 |[],i=>some (.x0)
 |hd::rest,i=>if v2_0.length≤9223372036854775807 then(dg c v6 hd v2_0 0).bind fun y=>match y with
  | .ret a b=>(some (.ret a b))
  | .x2=>(df c v2_0 v6 rest (i+1))else none
theorem vf (b:Int)(v2_0 v2_1 v2_2 v2_3 v2_4:List Int)(v6:Int)(a:List Int)(rest:List Int):∀(i:Nat) ,(a).drop i=rest→a.length≤9223372036854775807→Ans (df b v2_0 v6 rest i) (vh b v2_0 v2_1 v2_2 v2_3 v2_4 v6 a (a.length:Int) (i:Int)):=by
 induction rest with
 |nil =>intro i e g;have hb:=eL e;unfold df;exact DL (DN (show lw (fL b v2_0 v2_1 v2_2 v2_3 v2_4 v6 a (a.length:Int) (i:Int)) (.exit 0) (j6)from RP [.b false] (AC hb<|AN)))
 |cons hd rest m =>
  intro i e g;have hb:=dL e;have n:=dM e g;have h:=cO e;have l:=eM e;unfold df;apply DR;intro j;apply DQ;intro y f;replace f:=vg b v2_0 v2_1 v2_2 v2_3 v2_4 v6 hd a (a.length:Int) (i:Int) v2_0 v2_0 0 rfl j y f;cases y with
  |ret c d =>have k:=f;exact DL (DN (show lw (fL b v2_0 v2_1 v2_2 v2_3 v2_4 v6 a (a.length:Int) (i:Int)) .ret (jt c d)from RP [.b true,.row (etI hd),Ea (v2_0.length:Int),.lp .ret (ju c d)] (AC hb<|AR etI l<|ALn v2_0 etI<|AL k<|AN)))
  |x2 =>have k:=f;exact(m (i+1) h g).mono fun y f=>by have r:lw (fL b v2_0 v2_1 v2_2 v2_3 v2_4 v6 a (a.length:Int) (i:Int)) .normal (fL b v2_0 v2_1 v2_2 v2_3 v2_4 v6 a (a.length:Int) (inc (i:Int))):=RP [.b true,.row (etI hd),Ea (v2_0.length:Int),.lp (.exit 2) (j7 b v2_0 v2_1 v2_2 v2_3 v2_4 v6 a (a.length:Int) (i:Int))] (AC hb<|AR etI l<|ALn v2_0 etI<|AL k<|AN);rw[n]at r;cases y<;>exact DM r f
noncomputable def em (c:GCron)(d:Int):Option (Int×Bool):=
  if c.f1.length≤9223372036854775807 then(df d c.f0 (IntKind.wrap .i64 (d-(Int.tmod d 1440))) c.f1 0).bind fun y=>match y with
   | .ret a b=>(some (a,b))
   | .x0=>(some (0,false))else none
theorem xc (x0:GCron)(a:Int):Ans (em x0 a) (fun r=>Does E 47 [.agg (DX .far x0),D7 a] [DZ r.1,D5 r.2]):=by
 unfold em;apply DR;intro e;apply DQ;intro y d;replace d:=vf a x0.f0 x0.f1 x0.f2 x0.f3 x0.f4 (IntKind.wrap .i64 (a-(Int.tmod a 1440))) x0.f1 x0.f1 0 rfl e y d;cases y with
 |ret b c =>have f:=d;exact DL (DP Try.f47 [.no,.no,Ea (x0.f1.length:Int),.lp .ret (jt b c)] (ALn x0.f1 etI<|AL f<|AN))
 |x0 =>have f:=d;exact DL (DP Try.f47 [.no,.no,Ea (x0.f1.length:Int),.lp (.exit 0) (j6)] (ALn x0.f1 etI<|AL f<|AN))
def fB (d a h:Int)(b:List Int):Option Int:=(b.map fun x=>d*1440+h*60+x).find? fun m=>decide (m≥a)
def dx (d a:Int)(b c:List Int):Option Int:=b.findSome? fun h=>fB d a h c
noncomputable def dy (c:GCron)(x:Int):Int×Bool:=(em c x).getD (0,false)
theorem zL (d a h:Int)(f:0≤d)(g:d<47482)(hh:0≤h∧h≤23):∀(b:List Int)(i:Nat),(∀x∈b,0≤x∧x≤59) →
  dg a (d*1440) h b i=some (match fB d a h b with|some m=>.ret m true|none=>.x2)
 |[],i,_=>rfl
 |x::b,i,c=>by
  have k:=c x (by simp);unfold dg;have e:IntKind.wrap .i64 (IntKind.wrap .i64 (d*1440+IntKind.wrap .i64 (h*60))+x)=d*1440+h*60+x:=by rw[aF (h*60) (by omega) (by omega),aF (d*1440+h*60) (by omega) (by omega),aF _ (by omega) (by omega)]
  rw[e,zL d a h f g hh b (i+1) fun y j=>c y (by simp[j])];unfold fB;rw[EB,Gq];cases decide (d*1440+h*60+x≥a)<;>rfl
theorem yj (d a:Int)(e:0≤d)(f:d<47482)(b:List Int)(j:b.length≤1050000)(g:∀x∈b,0≤x∧x≤59):∀(c:List Int)(i:Nat),(∀x∈c,0≤x∧x≤23) →
  df a b (d*1440) c i=some (match dx d a c b with|some m=>.ret m true|none=>.x0)
 |[],i,_=>rfl
 |h::c,i,hh=>by unfold df;rw[Ej (by omega),zL d a h e f (hh h (by simp)) b 0 g,yj d a e f b j g c (i+1) fun y k=>hh y (by simp[k])];unfold dx;rw[Ga];cases fB d a h b<;>rfl
theorem yw (c:GCron)(x:Int)(h:aA.sm c)(hc:bg c=true)(a:0≤x)(g:x≤68374079):em c x=some (dy c x)∧dy c x=(match dx (x/1440) x c.f1 c.f0 with|some m=>(m,true)|none=>(0,false)):=by
 obtain⟨b,hh⟩:=mp hc;have e:em c x=some (match dx (x/1440) x c.f1 c.f0 with|some m=>(m,true)|none=>(0,false)):=by
  unfold em;have d:IntKind.wrap .i64 (x-Int.tmod x 1440)=x/1440*1440:=by rw[FE a,aF _ (by omega) (by omega)];omega
  have f:=h.1.1;have i:=h.2.1.1;rw[d,Ej (by omega),yj (x/1440) x (by omega) (by omega) c.f0 f b c.f1 0 hh];cases dx (x/1440) x c.f1 c.f0<;>rfl
 have p:dy c x=(match dx (x/1440) x c.f1 c.f0 with|some m=>(m,true)|none=>(0,false)):=by unfold dy;rw[e];rfl
 exact⟨by rw[p];exact e,p⟩
theorem xi (c:GCron)(x:Int)(h:aA.sm c):em c x=some (dy c x):=by
 refine Tot.getD ?_ _;have g:=h.1.1;have j:=h.2.1.1;have e:∀(a b k:Int)(l:List Int)(i:Nat),Tot (dg a b k l i):=by
  intro a b k l;induction l with
  |nil=>exact fun i=>Tot.some _
  |cons y l d=>intro i;unfold dg;exact Tot.cond (Tot.some _) (d _)
 have f:∀(a b:Int)(l:List Int)(i:Nat),Tot (df a c.f0 b l i):=by
  intro a b l;induction l with
  |nil=>exact fun i=>Tot.some _
  |cons y l d =>
   intro i;unfold df;refine Tot.ite (by omega) (Tot.bind (e _ _ _ _ _) fun z hz=>?_);cases z
   ·exact Tot.some _
   ·exact d _
 unfold em;refine Tot.ite (by omega) (Tot.bind (f _ _ _ _) fun z hz=>?_);cases z<;>exact Tot.some _
theorem wy (a:GCron)(b:Int)(h:aA.sm a):Does E 47 [.agg (DX .far a),D7 b] [DZ ((dy a b).1),D5 ((dy a b).2)]:=by exact xc a b _ (xi a b h)
theorem nf (a:GCron)(b:Int)(h:aA.sm a){d:Bool}(c:(dy a b).2=d):Does E 47 [.agg (DX .far a),D7 b] [DZ ((dy a b).1),D5 d]:=by rw[←c];exact wy a b h
inductive jZ where|ret (v6:Int) (v7:Bool)|x0
def cu (f v2:Int)(a b c d e:List Int)(v8:Int):US:=stL 45 [(1,D7 f),(2,D7 v2),(3,.box () [Ed 1 (a.map etI),Ed 1 (b.map etI),Ed 1 (c.map etI),Ed 1 (d.map etI),Ed 1 (e.map etI)]),(8,D7 v8)]
def ij (a:Int)(b:Bool):US:=stL 45 [(6,D7 a),(7,D8 b)]
def fX  : US:=stL 45 []
abbrev fC:US→Exit→US→Prop:=Round E 36 (aI Try.f36 0)
def rR (h v2:Int)(a b c d e:List Int)(v8:Int):jZ→Prop| .ret f g=>Loops E 36 (aI Try.f36 0) (cu h v2 a b c d e v8) .ret (ij f g)| .x0=>Loops E 36 (aI Try.f36 0) (cu h v2 a b c d e v8) (.exit 0) (fX)
noncomputable def b8 (v2:Int)(a b c d e:List Int):Nat→Int→Int→Option jZ| 0,_,_=>none|n+1,f,v8=>cond (decide (v8≤(fp v2 3000))) (cond (dq f) (if aA.sm (GCron.mk a b c d e)then cond (ge (GCron.mk a b c d e) f ((au f).1)) (cond ((dy (GCron.mk a b c d e) f).2) (some (.ret ((dy (GCron.mk a b c d e) f).1) true)) (b8 v2 a b c d e n (IntKind.wrap .i64 (f+(IntKind.wrap .i64 ((1440:Int)-(Int.tmod f 1440))))) (inc v8))) (b8 v2 a b c d e n (IntKind.wrap .i64 (f+(IntKind.wrap .i64 ((1440:Int)-(Int.tmod f 1440))))) (inc v8))else none) (some (.x0))) (some (.x0))
theorem rQ (v2:Int)(a b c d e:List Int)(n:Nat):∀(f v8:Int),Ans (b8 v2 a b c d e n f v8) (rR f v2 a b c d e v8):=by
 induction n with
 |zero=>intros;exact Ans.none
 |succ n l =>
  intro f v8;unfold b8;apply DO<;>intro g
  ·apply DO<;>intro i
   ·apply DR;intro h;apply DO<;>intro j
    ·apply DO<;>intro m
     ·exact DL (DN (show fC (cu f v2 a b c d e v8) .ret (ij ((dy (GCron.mk a b c d e) f).1) true)from RP [Ea (fp v2 3000),.b true,rT,.ret [(true,DW ((au f).1)),D5 ((au f).2)],rT,.ret [DZ ((dy (GCron.mk a b c d e) f).1),D5 true]] (AC (p:=(if(3000:Int)<v2 then 3000 else v2)=fp v2 3000) rfl<|AC g<|AD (DV (di f) i)<|AD (lk f)<|AD (DV (kz (GCron.mk a b c d e) f ((au f).1) h) j)<|AD (nf (GCron.mk a b c d e) f h m)<|AN)))
     ·have r:fC (cu f v2 a b c d e v8) .normal (cu (IntKind.wrap .i64 (f+(IntKind.wrap .i64 ((1440:Int)-(Int.tmod f 1440))))) v2 a b c d e (inc v8)):=RP [Ea (fp v2 3000),.b true,rT,.ret [(true,DW ((au f).1)),D5 ((au f).2)],rT,.ret [DZ ((dy (GCron.mk a b c d e) f).1),D5 false]] (AC (p:=(if(3000:Int)<v2 then 3000 else v2)=fp v2 3000) rfl<|AC g<|AD (DV (di f) i)<|AD (lk f)<|AD (DV (kz (GCron.mk a b c d e) f ((au f).1) h) j)<|AD (nf (GCron.mk a b c d e) f h m)<|AN);exact(l (IntKind.wrap .i64 (f+(IntKind.wrap .i64 ((1440:Int)-(Int.tmod f 1440))))) (inc v8)).mono fun y k=>by cases y<;>exact DM r k
    ·have r:fC (cu f v2 a b c d e v8) .normal (cu (IntKind.wrap .i64 (f+(IntKind.wrap .i64 ((1440:Int)-(Int.tmod f 1440))))) v2 a b c d e (inc v8)):=RP [Ea (fp v2 3000),.b true,rT,.ret [(true,DW ((au f).1)),D5 ((au f).2)],rF] (AC (p:=(if(3000:Int)<v2 then 3000 else v2)=fp v2 3000) rfl<|AC g<|AD (DV (di f) i)<|AD (lk f)<|AD (DV (kz (GCron.mk a b c d e) f ((au f).1) h) j)<|AN);exact(l (IntKind.wrap .i64 (f+(IntKind.wrap .i64 ((1440:Int)-(Int.tmod f 1440))))) (inc v8)).mono fun y k=>by cases y<;>exact DM r k
   ·exact DL (DN (show fC (cu f v2 a b c d e v8) (.exit 0) (fX)from RP [Ea (fp v2 3000),.b true,rF] (AC (p:=(if(3000:Int)<v2 then 3000 else v2)=fp v2 3000) rfl<|AC g<|AD (DV (di f) i)<|AN)))
  ·exact DL (DN (show fC (cu f v2 a b c d e v8) (.exit 0) (fX)from RP [Ea (fp v2 3000),.b false] (AC (p:=(if(3000:Int)<v2 then 3000 else v2)=fp v2 3000) rfl<|AC g<|AN)))
noncomputable def iQ (a:GCron)(d e:Int):Option (Int×Bool):=
  (b8 e a.f0 a.f1 a.f2 a.f3 a.f4 9223372036854775808 d 0).bind fun y=>match y with
   | .ret b c=>(some (b,c))
   | .x0=>(some (0,false))
theorem tF (x0:GCron)(d e:Int):Ans (iQ x0 d e) (fun r=>Does E 36 [.agg (DX .far x0),D7 d,D7 e] [DZ r.1,D5 r.2]):=by
 unfold iQ;apply DQ;intro y c;replace c:=rQ e x0.f0 x0.f1 x0.f2 x0.f3 x0.f4 9223372036854775808 d 0 y c;cases y with
 |ret a b =>have f:=c;exact DL (DP Try.f36 [.lp .ret (ij a b)] (AL f<|AN))
 |x0 =>have f:=c;exact DL (DP Try.f36 [.lp (.exit 0) (fX)] (AL f<|AN))
inductive mX where|ret (v6:Int) (v7:Bool)|x4
def d6 (g v2:Int)(a b c d e:List Int)(v8 v9 v10 f:Int):US:=stL 80 [(1,D7 g),(2,D7 v2),(3,.box () [Ed 1 (a.map etI),Ed 1 (b.map etI),Ed 1 (c.map etI),Ed 1 (d.map etI),Ed 1 (e.map etI)]),(8,D7 v8),(9,D7 v9),(10,D7 v10),(11,D7 f)]
def iq (a:Int)(b:Bool):US:=stL 80 [(6,D7 a),(7,D8 b)]
def i6 (f v2:Int)(a b c d e:List Int)(v8 v9 v10:Int):US:=stL 80 [(1,D7 f),(2,D7 v2),(3,.box () [Ed 1 (a.map etI),Ed 1 (b.map etI),Ed 1 (c.map etI),Ed 1 (d.map etI),Ed 1 (e.map etI)]),(8,D7 v8),(9,D7 v9),(10,D7 v10)]
abbrev ka:US→Exit→US→Prop:=Round E 11 (aI Try.f11 2)
def rZ (g v2:Int)(a b c d e:List Int)(v8 v9 v10 f:Int):mX→Prop| .ret h i=>Loops E 11 (aI Try.f11 2) (d6 g v2 a b c d e v8 v9 v10 f) .ret (iq h i)| .x4=>Loops E 11 (aI Try.f11 2) (d6 g v2 a b c d e v8 v9 v10 f) (.exit 4) (i6 g v2 a b c d e v8 v9 v10)
noncomputable def dt (b:Int)(a:List Int)(v9 v10:Int):List Int→Nat→Option mX|[],i=>some (.x4)|hd::rest,i=>(ba a v10).bind fun c=>cond (decide ((IntKind.wrap .i64 ((IntKind.wrap .i64 ((IntKind.wrap .i64 (v9*(1440:Int)))+(IntKind.wrap .i64 (c*(60:Int)))))+hd))≥b)) (some (.ret (IntKind.wrap .i64 ((IntKind.wrap .i64 ((IntKind.wrap .i64 (v9*(1440:Int)))+(IntKind.wrap .i64 (c*(60:Int)))))+hd)) true)) (dt b a v9 v10 rest (i+1))
theorem rW (f v2:Int)(a b c d e:List Int)(v8 v9 v10:Int)(rest:List Int):∀(i:Nat) ,(a).drop i=rest→a.length≤9223372036854775807→Ans (dt f b v9 v10 rest i) (rZ f v2 a b c d e v8 v9 v10 (i:Int)):=by
 induction rest with
 |nil =>intro i g h;have hb:=eL g;unfold dt;exact DL (DN (show ka (d6 f v2 a b c d e v8 v9 v10 (i:Int)) (.exit 4) (i6 f v2 a b c d e v8 v9 v10)from RP [Ea (a.length:Int),.b false] (ALn a etI<|AC hb<|AN)))
 |cons hd rest o =>
  intro i g h;have hb:=dL g;have p:=dM g h;have j:=cO g;have l:=eM g;unfold dt;apply DQ;intro k m;apply DO<;>intro n
  ·exact DL (DN (show ka (d6 f v2 a b c d e v8 v9 v10 (i:Int)) .ret (iq (IntKind.wrap .i64 ((IntKind.wrap .i64 ((IntKind.wrap .i64 (v9*(1440:Int)))+(IntKind.wrap .i64 (k*(60:Int)))))+hd)) true)from RP [Ea (a.length:Int),.b true,.row (etI k),.row (etI hd),.no,.b true] (ALn a etI<|AC hb<|AR etI m<|AR etI l<|AC n<|AN)))
  ·exact(o (i+1) j h).mono fun y q=>by have r:ka (d6 f v2 a b c d e v8 v9 v10 (i:Int)) .normal (d6 f v2 a b c d e v8 v9 v10 (inc (i:Int))):=RP [Ea (a.length:Int),.b true,.row (etI k),.row (etI hd),.no,.b false] (ALn a etI<|AC hb<|AR etI m<|AR etI l<|AC n<|AN);rw[p]at r;cases y<;>exact DM r q
inductive mW where|ret (v6:Int) (v7:Bool)|x2
def d5 (f v2:Int)(a b c d e:List Int)(v8 v9 v10:Int):US:=stL 80 [(1,D7 f),(2,D7 v2),(3,.box () [Ed 1 (a.map etI),Ed 1 (b.map etI),Ed 1 (c.map etI),Ed 1 (d.map etI),Ed 1 (e.map etI)]),(8,D7 v8),(9,D7 v9),(10,D7 v10)]
def ip (a:Int)(b:Bool):US:=stL 80 [(6,D7 a),(7,D8 b)]
def i5 (f v2:Int)(a b c d e:List Int)(v8 v9:Int):US:=stL 80 [(1,D7 f),(2,D7 v2),(3,.box () [Ed 1 (a.map etI),Ed 1 (b.map etI),Ed 1 (c.map etI),Ed 1 (d.map etI),Ed 1 (e.map etI)]),(8,D7 v8),(9,D7 v9)]
abbrev j9:US→Exit→US→Prop:=Round E 11 (aI Try.f11 1)
def rY (f v2:Int)(a b c d e:List Int)(v8 v9 v10:Int):mW→Prop| .ret g h=>Loops E 11 (aI Try.f11 1) (d5 f v2 a b c d e v8 v9 v10) .ret (ip g h)| .x2=>Loops E 11 (aI Try.f11 1) (d5 f v2 a b c d e v8 v9 v10) (.exit 2) (i5 f v2 a b c d e v8 v9)
noncomputable def dr (e:Int)(a b:List Int)(v9:Int):List Int→Nat→Option mW
 |[],i=>some (.x2)
 |hd::rest,i=>if a.length≤9223372036854775807 then(dt e b v9 (i:Int) a 0).bind fun y=>match y with
  | .ret c d=>(some (.ret c d))
  | .x4=>(dr e a b v9 rest (i+1))else none
theorem rV (f v2:Int)(b a c d e:List Int)(v8 v9:Int)(rest:List Int):∀(i:Nat) ,(a).drop i=rest→a.length≤9223372036854775807→Ans (dr f b a v9 rest i) (rY f v2 b a c d e v8 v9 (i:Int)):=by
 induction rest with
 |nil =>intro i j l;have hb:=eL j;unfold dr;exact DL (DN (show j9 (d5 f v2 b a c d e v8 v9 (i:Int)) (.exit 2) (i5 f v2 b a c d e v8 v9)from RP [Ea (a.length:Int),.b false] (ALn a etI<|AC hb<|AN)))
 |cons hd rest p =>
  intro i j l;have hb:=dL j;have q:=dM j l;have m:=cO j;have s:=eM j;unfold dr;apply DR;intro n;apply DQ;intro y k;replace k:=rW f v2 b a c d e v8 v9 (i:Int) b 0 rfl n y k;cases y with
  |ret g h =>have o:=k;exact DL (DN (show j9 (d5 f v2 b a c d e v8 v9 (i:Int)) .ret (ip g h)from RP [Ea (a.length:Int),.b true,.lp .ret (iq g h)] (ALn a etI<|AC hb<|AL o<|AN)))
  |x4 =>have o:=k;exact(p (i+1) m l).mono fun y k=>by have r:j9 (d5 f v2 b a c d e v8 v9 (i:Int)) .normal (d5 f v2 b a c d e v8 v9 (inc (i:Int))):=RP [Ea (a.length:Int),.b true,.lp (.exit 4) (i6 f v2 b a c d e v8 v9 (i:Int))] (ALn a etI<|AC hb<|AL o<|AN);rw[q]at r;cases y<;>exact DM r k
inductive mV where|ret (v6:Int) (v7:Bool)|x0
def cy (f v2:Int)(a b c d e:List Int)(v8 v9:Int):US:=stL 80 [(1,D7 f),(2,D7 v2),(3,.box () [Ed 1 (a.map etI),Ed 1 (b.map etI),Ed 1 (c.map etI),Ed 1 (d.map etI),Ed 1 (e.map etI)]),(8,D7 v8),(9,D7 v9)]
def fu (a:Int)(b:Bool):US:=stL 80 [(6,D7 a),(7,D8 b)]
def es  : US:=stL 80 []
abbrev fE:US→Exit→US→Prop:=Round E 11 (aI Try.f11 0)
def rX (h v2:Int)(a b c d e:List Int)(v8 v9:Int):mV→Prop| .ret f g=>Loops E 11 (aI Try.f11 0) (cy h v2 a b c d e v8 v9) .ret (fu f g)| .x0=>Loops E 11 (aI Try.f11 0) (cy h v2 a b c d e v8 v9) (.exit 0) (es)
noncomputable def cz (h v2:Int)(b a c d e:List Int)(v8:Int):Nat→Int→Option mV
 | 0,_=>none
 |n+1,v9=>cond (decide (v9≤(IntKind.wrap .i64 (v8+v2))))
  (cond (decide ((IntKind.wrap .i64 (v9*(1440:Int)))≤(68374079:Int)))
   (if aA.sm (GCron.mk b a c d e)then cond (jH (GCron.mk b a c d e) (IntKind.wrap .i64 (v9*(1440:Int))))
    (if a.length≤9223372036854775807 then(dr h b a v9 a 0).bind fun y=>match y with
     | .ret f g=>(some (.ret f g))
     | .x2=>(cz h v2 b a c d e v8 n (inc v9))else none)
    (cz h v2 b a c d e v8 n (inc v9))else none)
   (some (.x0)))
  (some (.x0))
theorem mU (f v2:Int)(b a c d e:List Int)(v8:Int)(n:Nat):∀(v9:Int),Ans (cz f v2 b a c d e v8 n v9) (rX f v2 b a c d e v8 v9):=by
 induction n with
 |zero=>intros;exact Ans.none
 |succ n q =>
  intro v9;unfold cz;apply DO<;>intro j
  ·apply DO<;>intro k
   ·apply DR;intro l;apply DO<;>intro m
    ·apply DR;intro o;apply DQ;intro y g;replace g:=rV f v2 b a c d e v8 v9 a 0 rfl o y g;cases y with
     |ret h i =>have p:=g;exact DL (DN (show fE (cy f v2 b a c d e v8 v9) .ret (fu h i)from RP [.no,.b true,.no,.b true,rT,.lp .ret (ip h i)] (AC j<|AC k<|AD (DV (mj (GCron.mk b a c d e) (IntKind.wrap .i64 (v9*(1440:Int))) l) m)<|AL p<|AN)))
     |x2 =>have p:=g;have r:fE (cy f v2 b a c d e v8 v9) .normal (cy f v2 b a c d e v8 (inc v9)):=RP [.no,.b true,.no,.b true,rT,.lp (.exit 2) (i5 f v2 b a c d e v8 v9)] (AC j<|AC k<|AD (DV (mj (GCron.mk b a c d e) (IntKind.wrap .i64 (v9*(1440:Int))) l) m)<|AL p<|AN);exact(q (inc v9)).mono fun y g=>by cases y<;>exact DM r g
    ·have r:fE (cy f v2 b a c d e v8 v9) .normal (cy f v2 b a c d e v8 (inc v9)):=RP [.no,.b true,.no,.b true,rF] (AC j<|AC k<|AD (DV (mj (GCron.mk b a c d e) (IntKind.wrap .i64 (v9*(1440:Int))) l) m)<|AN);exact(q (inc v9)).mono fun y g=>by cases y<;>exact DM r g
   ·exact DL (DN (show fE (cy f v2 b a c d e v8 v9) (.exit 0) (es)from RP [.no,.b true,.no,.b false] (AC j<|AC k<|AN)))
  ·exact DL (DN (show fE (cy f v2 b a c d e v8 v9) (.exit 0) (es)from RP [.no,.b false] (AC j<|AN)))
noncomputable def i7 (a:GCron)(d e:Int):Option (Int×Bool):=
  if aA.sm a then cond (bg a)
   (cond (bA d 0 68374079)
    (cond (decide (e<(0:Int)))
     (some (0,false))
     (cond (decide (e>(3000:Int)))
      ((cz d 3000 a.f0 a.f1 a.f2 a.f3 a.f4 (IntKind.wrap .i64 (Int.tdiv d 1440)) 9223372036854775808 (IntKind.wrap .i64 (Int.tdiv d 1440))).bind fun y=>match y with
       | .ret b c=>(some (b,c))
       | .x0=>(some (0,false)))
      ((cz d e a.f0 a.f1 a.f2 a.f3 a.f4 (IntKind.wrap .i64 (Int.tdiv d 1440)) 9223372036854775808 (IntKind.wrap .i64 (Int.tdiv d 1440))).bind fun y=>match y with
       | .ret b c=>(some (b,c))
       | .x0=>(some (0,false)))))
    (some (0,false)))
   (some (0,false))else none
theorem ui (x0:GCron)(a k:Int):Ans (i7 x0 a k) (fun r=>Does E 11 [.agg (DX .far x0),D7 a,D7 k] [DZ r.1,D5 r.2]):=by
 unfold i7;apply DR;intro e;apply DO<;>intro f
 ·apply DO<;>intro h
  ·apply DO<;>intro i
   ·exact DL (DP Try.f11 [rT,rT,.b true] (AD (DV (fg x0 e) f)<|AD (DV (bG a 0 68374079) h)<|AC i<|AN))
   ·apply DO<;>intro j
    ·apply DQ;intro y d;replace d:=mU a 3000 x0.f0 x0.f1 x0.f2 x0.f3 x0.f4 (IntKind.wrap .i64 (Int.tdiv a 1440)) 9223372036854775808 (IntKind.wrap .i64 (Int.tdiv a 1440)) y d;cases y with
     |ret b c =>have g:=d;exact DL (DP Try.f11 [rT,rT,.b false,.b true,.lp .ret (fu b c)] (AD (DV (fg x0 e) f)<|AD (DV (bG a 0 68374079) h)<|AC i<|AC j<|AL g<|AN))
     |x0 =>have g:=d;exact DL (DP Try.f11 [rT,rT,.b false,.b true,.lp (.exit 0) (es)] (AD (DV (fg x0 e) f)<|AD (DV (bG a 0 68374079) h)<|AC i<|AC j<|AL g<|AN))
    ·apply DQ;intro y d;replace d:=mU a k x0.f0 x0.f1 x0.f2 x0.f3 x0.f4 (IntKind.wrap .i64 (Int.tdiv a 1440)) 9223372036854775808 (IntKind.wrap .i64 (Int.tdiv a 1440)) y d;cases y with
     |ret b c =>have g:=d;exact DL (DP Try.f11 [rT,rT,.b false,.b false,.lp .ret (fu b c)] (AD (DV (fg x0 e) f)<|AD (DV (bG a 0 68374079) h)<|AC i<|AC j<|AL g<|AN))
     |x0 =>have g:=d;exact DL (DP Try.f11 [rT,rT,.b false,.b false,.lp (.exit 0) (es)] (AD (DV (fg x0 e) f)<|AD (DV (bG a 0 68374079) h)<|AC i<|AC j<|AL g<|AN))
  ·exact DL (DP Try.f11 [rT,rF] (AD (DV (fg x0 e) f)<|AD (DV (bG a 0 68374079) h)<|AN))
 ·exact DL (DP Try.f11 [rF] (AD (DV (fg x0 e) f)<|AN))
noncomputable def iN (c:GCron)(a:Int):Nat→Int→Option Int
 | 0,_=>none
 |n+1,d=>if d*1440≤68374079 then(if jH c (d*1440)=true then(match dx d (max a (d*1440)) c.f1 c.f0 with|some m=>some m|none=>iN c a n (d+1))else iN c a n (d+1))else none
noncomputable def ar (c:GCron)(a b:Int):Int×Bool:=if dq a=true then(match iN c a 401 (a/1440)with|some m=>(m,true)|none=>(0,false))else(0,false)
noncomputable def aG (c:GCron)(a b:Int):Int×Bool:=if bg c=true then ar c a b else(0,false)
theorem zM (d a h:Int)(j:0≤d)(l:d<47482)(hh:0≤h∧h≤23)(c:List Int)(k:Nat)(f:c[k]?=some h):∀(b:List Int)(i:Nat),(∀x∈b,0≤x∧x≤59) →
  dt a c d (k:Int) b i=some (match fB d a h b with|some m=>.ret m true|none=>.x4)
 |[],i,_=>rfl
 |x::b,i,g=>by
  have o:=g x (by simp);unfold dt;rw[jp,f,Eg];have e:IntKind.wrap .i64 (IntKind.wrap .i64 (IntKind.wrap .i64 (d*1440)+IntKind.wrap .i64 (h*60))+x)=d*1440+h*60+x:=by rw[aF (h*60) (by omega) (by omega),aF (d*1440) (by omega) (by omega),aF (d*1440+h*60) (by omega) (by omega),aF _ (by omega) (by omega)]
  rw[e,zM d a h j l hh c k f b (i+1) fun y n=>g y (by simp[n])];unfold fB;rw[EB,Gq];cases decide (d*1440+h*60+x≥a)<;>rfl
theorem yk (d b:Int)(e:0≤d)(f:d<47482)(bj c:List Int)(k:c.length≤1050000)(g:∀x∈c,0≤x∧x≤59):∀(a:List Int)(i:Nat),bj.drop i=a→(∀x∈a,0≤x∧x≤23) →
  dr b c bj d a i=some (match dx d b a c with|some m=>.ret m true|none=>.x2)
 |[],i,_,_=>rfl
 |h::a,i,j,hh=>by
  have l:bj[i]?=some h:=by rw[←List.head?_drop,j];rfl
  unfold dr;rw[Ej (by omega),zM d b h e f (hh h (by simp)) bj i l c 0 g,yk d b e f bj c k g a (i+1) (cO j) fun y n=>hh y (by simp[n])];unfold dx;rw[Ga];cases fB d b h c<;>rfl
theorem wV (d a h:Int)(hh:0≤h)(b:List Int)(c:∀x∈b,0≤x∧x≤59):fB d (max a (d*1440)) h b=fB d a h b:=by
 induction b with
 |nil=>rfl
 |cons x b e =>
  have g:=c x (by simp);unfold fB at e ⊢;rw[EB,Gq,Gq,e fun y f=>c y (by simp[f])];have:decide (d*1440+h*60+x≥max a (d*1440))=decide (d*1440+h*60+x≥a):=by rw[decide_eq_decide];omega
  rw[this]
theorem wU (d b:Int)(a c:List Int)(hh:∀x∈a,0≤x∧x≤23)(f:∀x∈c,0≤x∧x≤59):dx d (max b (d*1440)) a c=dx d b a c:=by
 induction a with
 |nil=>rfl
 |cons h a e =>unfold dx at e ⊢;rw[Ga,Ga,wV d b h (hh h (by simp)).1 c f,e fun y g=>hh y (by simp[g])]
theorem yd (c:GCron)(a:Int)(h:aA.sm c)(hc:bg c=true)(first:Int)(b:0≤first)(e:first<47482):∀(m n:Nat)(d:Int),d+m=first+401→first≤d→m<n →
  cz a 400 c.f0 c.f1 c.f2 c.f3 c.f4 first n d=some (match iN c a m d with|some x=>.ret x true|none=>.x0)
 |m,0,d,_,_,g=>by omega
 | 0,n+1,d,hd,_,_=>by unfold cz;rw[aF (first+400) (by omega) (by omega),EA (by omega)];rfl
 |m+1,n+1,d,hd,i,g=>by
  obtain⟨f,hh⟩:=mp hc;have j:=yd c a h hc first b e m n (d+1) (by omega) (by omega) (by omega)
  have l:=h.2.1.1;have k:=h.1.1;unfold cz iN;rw[aF (first+400) (by omega) (by omega),EC (by omega),EG,aF (d*1440) (by omega) (by omega),dP d (by omega) (by omega),j];by_cases q:d*1440≤68374079
  ·rw[EC q,Ej q,EG,Ej (show aA.sm (GCron.mk c.f0 c.f1 c.f2 c.f3 c.f4)from h)];show cond (jH c (d*1440)) _ _=_;cases jH c (d*1440)with
   |false=>rfl
   |true =>rw[EG,Ej rfl,Ej (by omega),yk d a (by omega) (by omega) c.f1 c.f0 k f c.f1 0 rfl hh,wU d a c.f1 c.f0 hh f];cases dx d a c.f1 c.f0<;>rfl
  ·rw[EA q,Eu q];rfl
theorem yc (c:GCron)(a:Int)(h:aA.sm c)(hc:bg c=true)(first:Int)(hf:first=a/1440)(g:0≤a)(i:a≤68374079):∀(m n:Nat)(d v:Int),d+m=first+401→first≤d→m<n→v=max a (d*1440) →
  b8 400 c.f0 c.f1 c.f2 c.f3 c.f4 n v (d-first)=some (match iN c a m d with|some x=>.ret x true|none=>.x0)
 |m,0,d,v,_,_,o,_=>by omega
 | 0,n+1,d,v,hd,_,_,_=>by unfold b8;have:fp 400 3000=400:=rfl;rw[this,EA (by omega)];rfl
 |m+1,n+1,d,v,hd,p,o,hv=>by
  have u:0≤d:=by omega
  have w:d≤50000:=by omega
  have b:v/1440=d:=by omega
  have f:0≤v:=by omega
  have y:v<(d+1)*1440:=by omega
  have r:IntKind.wrap .i64 (v+IntKind.wrap .i64 (1440-Int.tmod v 1440))=(d+1)*1440:=by rw[FE f,aF (1440-v % 1440) (by omega) (by omega),aF _ (by omega) (by omega)];omega
  have s:=yc c a h hc first hf g i m n (d+1) ((d+1)*1440) (by omega) (by omega) (by omega) (by omega)
  have t:inc (d-first)=d+1-first:=by rw[dP _ (by omega) (by omega)];omega
  unfold b8 iN;have j:fp 400 3000=400:=rfl;rw[j,EC (by omega),EG,r,t,s];have sm:aA.sm (GCron.mk c.f0 c.f1 c.f2 c.f3 c.f4):=h;simp only[Ej sm];by_cases q:d*1440≤68374079
  ·have e:dq v=true:=b9.2 ⟨f,by omega⟩;have k:=y3 c v f (b9.1 e).2;rw[b]at k;have l:=(yw c v h hc f (b9.1 e).2).2;rw[b,hv]at l;rw[Ej q,e,EG];show cond (ge c v (au v).1) _ _=_;rw[k];cases jH c (d*1440)with
   |false=>rfl
   |true =>rw[EG,Ej rfl];show cond (dy c v).2 (some (jZ.ret (dy c v).1 true)) _=_;rw[hv,l];cases dx d (max a (d*1440)) c.f1 c.f0<;>rfl
  ·have e:dq v=false:=by
    cases z:dq v with
    |false=>rfl
    |true=>exact absurd (b9.1 z).2 (by omega)
   rw[Eu q,e];rfl
theorem xg (c:GCron)(a:Int)(h:aA.sm c)(hc:bg c=true):iQ c a 400=some (ar c a 400):=by
 unfold iQ ar;cases q:dq a with
 |false =>
  have:b8 400 c.f0 c.f1 c.f2 c.f3 c.f4 9223372036854775808 a 0=some .x0:=by unfold b8;have b:fp 400 3000=400:=rfl;rw[b,EC (by omega),EG,q];rfl
  rw[this];rfl
 |true =>obtain⟨f0,f1⟩:=b9.1 q;have:=yc c a h hc (a/1440) rfl f0 f1 401 9223372036854775808 (a/1440) a (by omega) (by omega) (by omega) (by omega);rw[show a/1440-a/1440=0 by omega]at this;rw[this,Ej rfl];cases iN c a 401 (a/1440)<;>rfl
theorem xh (c:GCron)(a:Int)(h:aA.sm c):i7 c a 400=some (aG c a 400):=by
 unfold i7 aG;try rw[Ej h]
 cases hc:bg c with
 |false=>rfl
 |true =>
  rw[EG,Ej rfl];unfold ar;cases q:dq a with
  |false =>have:bA a 0 68374079=false:=q;rw[this];rfl
  |true =>
   have b:bA a 0 68374079=true:=q;obtain⟨f0,f1⟩:=b9.1 q;have e:IntKind.wrap .i64 (Int.tdiv a 1440)=a/1440:=by rw[E1 f0];exact aF _ (by omega) (by omega)
   have:=yd c a h hc (a/1440) (by omega) (by omega) 401 9223372036854775808 (a/1440) (by omega) (by omega) (by omega);rw[b,EG,EA (by omega),EP,EA (by omega),EP,e,this,Ej rfl];cases iN c a 401 (a/1440)<;>rfl
theorem nh (a:GCron)(b:Int)(c:Int)(h:aA.sm a)(hc:bg a=true)(hd:c=400):Does E 36 [.agg (DX .far a),D7 b,D7 c] [DZ ((ar a b c).1),D5 ((ar a b c).2)]:=by subst hd;exact tF a b 400 _ (xg a b h hc)
theorem ji (a:GCron)(c:Int)(b:Int)(h:aA.sm a)(hc:bg a=true)(hd:b=400){e:Bool}(d:(ar a c b).2=e):Does E 36 [.agg (DX .far a),D7 c,D7 b] [DZ ((ar a c b).1),D5 e]:=by rw[←d];exact nh a c b h hc hd
theorem kA (a:GCron)(b:Int)(c:Int)(h:aA.sm a)(hd:c=400):Does E 11 [.agg (DX .far a),D7 b,D7 c] [DZ ((aG a b c).1),D5 ((aG a b c).2)]:=by subst hd;exact ui a b 400 _ (xh a b h)
theorem jj (a:GCron)(c:Int)(b:Int)(h:aA.sm a)(hd:b=400){e:Bool}(d:(aG a c b).2=e):Does E 11 [.agg (DX .far a),D7 c,D7 b] [DZ ((aG a c b).1),D5 e]:=by rw[←d];exact kA a c b h hd
end
end Go.Proofs.Ytlhgcolciklecaa.Am
