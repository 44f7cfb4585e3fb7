/- Rules: what fires. -/
import Derived.Test.YtlhgcolciklecaaDays
namespace Go.Proofs.Ytlhgcolciklecaa.Am
open Go
set_option linter.unusedVariables false
set_option linter.unusedSimpArgs false
section
open Go.Proofs Classical
set_option maxRecDepth 100000
inductive pi where|ret (v4:Bool)|x0
def fX (a:List Int)(b v5:Int):US:=stL 18 [(0,.one (BO 1 (a.map etI))),(1,BI b),(5,BI v5)]
def jp (a:Bool):US:=stL 18 [(4,BJ a)]
def j8  : US:=stL 18 []
abbrev lS:US→Exit→US→Prop:=Round E 28 (aI Try.f28 0)
def we (b:List Int)(c v5:Int):pi→Prop| .ret a=>Loops E 28 (aI Try.f28 0) (fX b c v5) .ret (jp a)| .x0=>Loops E 28 (aI Try.f28 0) (fX b c v5) (.exit 0) (j8)
noncomputable def eS (a:Int):List Int→Nat→Option pi|[],i=>some (.x0)|hd::rest,i=>cond (hd==a) (some (.ret true)) (eS a rest (i+1))
theorem wd (a:List Int)(b:Int)(rest:List Int):∀(i:Nat) ,(a).drop i=rest→a.length≤9223372036854775807→Ans (eS b rest i) (we a b (i:Int)):=by
 induction rest with
 |nil =>intro i c d;have hb:=c9 c;unfold eS;exact Bt (Bv (show lS (fX a b (i:Int)) (.exit 0) (j8)from RP [BL (a.length:Int),.b false] (ALn a etI<|AC hb<|AN)))
 |cons hd rest h =>
  intro i c d;have hb:=cy c;have j:=cz c d;have e:=bu c;have f:=cI c;unfold eS;apply Bw<;>intro g
  ·exact Bt (Bv (show lS (fX a b (i:Int)) .ret (jp true)from RP [BL (a.length:Int),.b true,.row (etI hd),.b true] (ALn a etI<|AC hb<|AR etI f<|AC g<|AN)))
  ·exact(h (i+1) e d).mono fun y k=>by have r:lS (fX a b (i:Int)) .normal (fX a b (inc (i:Int))):=RP [BL (a.length:Int),.b true,.row (etI hd),.b false] (ALn a etI<|AC hb<|AR etI f<|AC g<|AN);rw[j]at r;cases y<;>exact Bu r k
noncomputable def nb (b:List Int)(c:Int):Option (Bool):=
  if b.length≤9223372036854775807 then(eS c b 0).bind fun y=>match y with
   | .ret a=>(some (a))
   | .x0=>(some (false))else none
theorem xq (x0:List Int)(c:Int):Ans (nb x0 c) (fun r=>Does E 28 [.one (BO 1 (x0.map etI)),BI c] [BG r]):=by
 unfold nb;apply By;intro d;apply Bx;intro y b;replace b:=wd x0 c x0 0 rfl d y b;cases y with
 |ret a =>have e:=b;exact Bt (DP Try.f28 [.lp .ret (jp a)] (AL e<|AN))
 |x0 =>have e:=b;exact Bt (DP Try.f28 [.lp (.exit 0) (j8)] (AL e<|AN))
def aD (l:List Int)(x:Int):Bool:=l.any fun y=>y==x
theorem xb (x:Int):∀(rest:List Int)(i:Nat),eS x rest i=some (if aD rest x=true then .ret true else .x0)
 |[],i=>rfl
 |y::rest,i=>by unfold eS;rw[xb x rest (i+1)];unfold aD;rw[List.any_cons];cases y==x<;>rfl
theorem aJ (a:List Int)(b:Int)(h:a.length≤1050000):Does E 28 [.one (BO 1 (a.map etI)),BI b] [BG (aD a b)]:=by exact xq a b _ (by unfold nb;rw[BU (by omega),xb];cases q:aD a b<;>rfl)
inductive iC where|ret (v4:Int)|x0
def b5 (a:List Int)(b v7 v8:Int):US:=stL 19 [(0,.one (BO 1 (a.map etI))),(1,BI b),(7,BI v7),(8,BI v8)]
def eb (a:Int):US:=stL 19 [(4,BI a)]
def eD  : US:=stL 19 []
abbrev fv:US→Exit→US→Prop:=Round E 40 (aI Try.f40 0)
def l8 (b:List Int)(c v7 v8:Int):iC→Prop| .ret a=>Loops E 40 (aI Try.f40 0) (b5 b c v7 v8) .ret (eb a)| .x0=>Loops E 40 (aI Try.f40 0) (b5 b c v7 v8) (.exit 0) (eD)
noncomputable def bp (a:Int):List Int→Nat→Option iC|[],i=>some (.x0)|hd::rest,i=>cond (a==hd) (some (.ret (i:Int))) (bp a rest (i+1))
theorem l7 (a:List Int)(b:Int)(rest:List Int):∀(i:Nat) ,(a).drop i=rest→a.length≤9223372036854775807→Ans (bp b rest i) (l8 a b (a.length:Int) (i:Int)):=by
 induction rest with
 |nil =>intro i c d;have hb:=c9 c;unfold bp;exact Bt (Bv (show fv (b5 a b (a.length:Int) (i:Int)) (.exit 0) (eD)from RP [.b false] (AC hb<|AN)))
 |cons hd rest h =>
  intro i c d;have hb:=cy c;have j:=cz c d;have e:=bu c;have f:=cI c;unfold bp;apply Bw<;>intro g
  ·exact Bt (Bv (show fv (b5 a b (a.length:Int) (i:Int)) .ret (eb (i:Int))from RP [.b true,.row (etI hd),.b true] (AC hb<|AR etI f<|AC g<|AN)))
  ·exact(h (i+1) e d).mono fun y k=>by have r:fv (b5 a b (a.length:Int) (i:Int)) .normal (b5 a b (a.length:Int) (inc (i:Int))):=RP [.b true,.row (etI hd),.b false] (AC hb<|AR etI f<|AC g<|AN);rw[j]at r;cases y<;>exact Bu r k
noncomputable def cp (b:List Int)(c:Int):Option (Int):=
  if b.length≤9223372036854775807 then(bp c b 0).bind fun y=>match y with
   | .ret a=>(some (a))
   | .x0=>(some ((-1:Int)))else none
theorem nj (x0:List Int)(c:Int):Ans (cp x0 c) (fun r=>Does E 40 [.one (BO 1 (x0.map etI)),BI c] [BF r]):=by
 unfold cp;apply By;intro d;apply Bx;intro y b;replace b:=l7 x0 c x0 0 rfl d y b;cases y with
 |ret a =>have e:=b;exact Bt (DP Try.f40 [BL (x0.length:Int),.lp .ret (eb a)] (ALn x0 etI<|AL e<|AN))
 |x0 =>have e:=b;exact Bt (DP Try.f40 [BL (x0.length:Int),.lp (.exit 0) (eD)] (ALn x0 etI<|AL e<|AN))
noncomputable def oi (l:List Int)(x:Int):Int:=(cp l x).getD (-1)
theorem yt (x:Int):∀(rest:List Int)(i:Nat),(∃k:Nat,bp x rest i=some (.ret (k:Int))∧aD rest x=true)∨bp x rest i=some .x0∧aD rest x=false
 |[],i=>.inr ⟨rfl,rfl⟩
 |y::rest,i=>by
  have e:(x==y)=(y==x):=by cases q:y==x with|true=>rw[eq_of_beq q];simp|false=>exact DI.2 fun e=>by rw[e]at q;simp at q
  unfold bp aD;rw[List.any_cons,e];cases y==x with
  |true=>exact .inl ⟨i,rfl,rfl⟩
  |false=>exact yt x rest (i+1)
theorem w8 (l:List Int)(x:Int)(h:l.length≤1050000):cp l x=some (oi l x)∧decide (oi l x≥(0:Int))=aD l x:=by
 have e:∃r,cp l x=some r∧decide (r≥(0:Int))=aD l x:=by
  unfold cp;rw[BU (by omega)];rcases yt x l 0 with⟨k,a,b⟩|⟨a,b⟩
  ·exact⟨(k:Int),by rw[a];rfl,by rw[b];exact Cl (by omega)⟩
  ·exact⟨-1,by rw[a];rfl,by rw[b];rfl⟩
 obtain⟨r,a,b⟩:=e;have p:oi l x=r:=by unfold oi;rw[a];rfl
 rw[p];exact⟨a,b⟩
theorem mf (a:List Int)(b:Int)(h:a.length≤1050000):Does E 40 [.one (BO 1 (a.map etI)),BI b] [BF (oi a b)]:=by exact nj a b _ (w8 a b h).1
noncomputable def eC (a:List Int)(b:Int):Option (Bool):=if a.length≤1050000 then some (decide ((oi a b)≥(0:Int)))else none
theorem li (a:List Int)(b:Int):Ans (eC a b) (fun r=>Does E 29 [.one (BO 1 (a.map etI)),BI b] [BG r]):=by unfold eC;apply By;intro c;exact Bt (DP Try.f29 [.ret [BF (oi a b)]] (AD (mf a b c)<|AN))
theorem ap (a:List Int)(b:Int)(h:a.length≤1050000):Does E 29 [.one (BO 1 (a.map etI)),BI b] [BG (aD a b)]:=by
 exact li a b _ (by
  unfold eC;try rw[BU h]
  rw[(w8 a b h).2])
inductive nc where|ret (v6:Bool)|x0
def cF (a:List Int)(b v2 v7:Int):US:=stL 41 [(0,.one (BO 1 (a.map etI))),(1,BI b),(2,BI v2),(7,BI v7)]
def fB (a:Bool):US:=stL 41 [(6,BJ a)]
def iU (a:List Int):US:=stL 41 [(0,.one (BO 1 (a.map etI)))]
abbrev fM:US→Exit→US→Prop:=Round E 37 (aI Try.f37 0)
def tg (a:List Int)(c v2 v7:Int):nc→Prop| .ret b=>Loops E 37 (aI Try.f37 0) (cF a c v2 v7) .ret (fB b)| .x0=>Loops E 37 (aI Try.f37 0) (cF a c v2 v7) (.exit 0) (iU a)
noncomputable def c5 (a:List Int)(b v2:Int):List Int→Nat→Option nc|[],i=>some (.x0)|hd::rest,i=>cond (a8 hd b v2) (cond (decide ((i:Int)>(0:Int))) ((bd a (IntKind.wrap .i64 ((i:Int)-(1:Int)))).bind fun c=>cond (decide (c≥hd)) (some (.ret false)) (c5 a b v2 rest (i+1))) (c5 a b v2 rest (i+1))) (some (.ret false))
theorem tf (a:List Int)(b v2:Int)(rest:List Int):∀(i:Nat) ,(a).drop i=rest→a.length≤9223372036854775807→Ans (c5 a b v2 rest i) (tg a b v2 (i:Int)):=by
 induction rest with
 |nil =>intro i c f;have hb:=c9 c;unfold c5;exact Bt (Bv (show fM (cF a b v2 (i:Int)) (.exit 0) (iU a)from RP [BL (a.length:Int),.b false] (ALn a etI<|AC hb<|AN)))
 |cons hd rest k =>
  intro i c f;have hb:=cy c;have l:=cz c f;have e:=bu c;have d:=cI c;unfold c5;apply Bw<;>intro g
  ·apply Bw<;>intro h
   ·apply Bx;intro m n;apply Bw<;>intro o
    ·exact Bt (Bv (show fM (cF a b v2 (i:Int)) .ret (fB false)from RP [BL (a.length:Int),.b true,.row (etI hd),rT,.b true,.row (etI m),.row (etI hd),.b true] (ALn a etI<|AC hb<|AR etI d<|AD (BB (a5 hd b v2) g)<|AC h<|AR etI n<|AR etI d<|AC o<|AN)))
    ·exact(k (i+1) e f).mono fun y j=>by have r:fM (cF a b v2 (i:Int)) .normal (cF a b v2 (inc (i:Int))):=RP [BL (a.length:Int),.b true,.row (etI hd),rT,.b true,.row (etI m),.row (etI hd),.b false] (ALn a etI<|AC hb<|AR etI d<|AD (BB (a5 hd b v2) g)<|AC h<|AR etI n<|AR etI d<|AC o<|AN);rw[l]at r;cases y<;>exact Bu r j
   ·exact(k (i+1) e f).mono fun y j=>by have r:fM (cF a b v2 (i:Int)) .normal (cF a b v2 (inc (i:Int))):=RP [BL (a.length:Int),.b true,.row (etI hd),rT,.b false] (ALn a etI<|AC hb<|AR etI d<|AD (BB (a5 hd b v2) g)<|AC h<|AN);rw[l]at r;cases y<;>exact Bu r j
  ·exact Bt (Bv (show fM (cF a b v2 (i:Int)) .ret (fB false)from RP [BL (a.length:Int),.b true,.row (etI hd),rF] (ALn a etI<|AC hb<|AR etI d<|AD (BB (a5 hd b v2) g)<|AN)))
noncomputable def kQ (b:List Int)(c d:Int):Option (Bool):=
  if b.length≤9223372036854775807 then(c5 b c d b 0).bind fun y=>match y with
   | .ret a=>(some (a))
   | .x0=>(some (decide ((b.length:Int)>(0:Int))))else none
theorem uy (x0:List Int)(c d:Int):Ans (kQ x0 c d) (fun r=>Does E 37 [.one (BO 1 (x0.map etI)),BI c,BI d] [BG r]):=by
 unfold kQ;apply By;intro e;apply Bx;intro y b;replace b:=tf x0 c d x0 0 rfl e y b;cases y with
 |ret a =>have f:=b;exact Bt (DP Try.f37 [.lp .ret (fB a)] (AL f<|AN))
 |x0 =>have f:=b;exact Bt (DP Try.f37 [.lp (.exit 0) (iU x0),BL (x0.length:Int)] (AL f<|ALn x0 etI<|AN))
def gp (a b:Int):List Int→Option Int→Bool
 |[],_=>true
 |x::l,p=>a8 x a b&&(match p with|some y=>decide (y<x)|none=>true)&&gp a b l (some x)
def aO (l:List Int)(a b:Int):Bool:=gp a b l none&&decide ((l.length:Int)>0)
theorem uQ {a rest:List Int}{x:Int}{i:Nat}(h:a.drop i=x::rest):i=0∨∃y,a[i-1]?=some y:=by
 cases i with
 |zero=>exact .inl rfl
 |succ i =>
  right;have:i<a.length:=by
   rcases BX i a.length with g|g
   ·exact g
   ·rw[Ds (by omega)]at h;cases h
  exact⟨a[i],by simp[this]⟩
def dW (a:List Int)(i:Nat):Option Int:=if i=0 then none else a[i-1]?
theorem qD {a rest:List Int}{x:Int}{i:Nat}(h:a.drop i=x::rest):dW a (i+1)=some x:=by unfold dW;rw[Ca (by omega)];show a[i]?=some x;rw[←List.head?_drop,h];rfl
theorem xe (d:List Int)(a b:Int)(l:d.length≤1050000):∀(rest:List Int)(i:Nat),d.drop i=rest→c5 d a b rest i=some (if gp a b rest (dW d i)=true then .x0 else .ret false)
 |[],i,_=>rfl
 |x::rest,i,h=>by
  have j:=xe d a b l rest (i+1) (bu h);rw[qD h]at j;have hi:i<d.length:=by
   rcases BX i d.length with g|g
   ·exact g
   ·rw[Ds g]at h;cases h
  unfold c5 gp;rw[j];cases a8 x a b with
  |false=>rfl
  |true =>
   rw[Cs,Er];rcases uQ h with rfl|⟨y,k⟩
   ·simp[dW]
   ·by_cases z:i=0
    ·subst z;simp[dW]
    ·have m:dW d i=some y:=by unfold dW;rw[Ca z,k]
     have n:bd d (IntKind.wrap .i64 ((i:Int)-1))=some y:=by
      rw[ay _ (by omega) (by omega)];have e:((i:Int)-1)=((i-1:Nat):Int):=by omega
      rw[e,iG,k]
     rw[m,n,Cl (by omega:(i:Int)>0),Cs,BT];simp only;by_cases c:y≥x
     ·have f:¬y<x:=by omega
      rw[Cl c,Cs];simp[f]
     ·have f:y<x:=by omega
      rw[Cj c,CI];simp[f]
theorem bh (a:List Int)(b:Int)(c:Int)(h:a.length≤1050000):Does E 37 [.one (BO 1 (a.map etI)),BI b,BI c] [BG (aO a b c)]:=by exact uy a b c _ (by unfold kQ;rw[BU (by omega),xe a b c h a 0 rfl];unfold aO dW;rw[BU rfl];cases gp b c a none<;>rfl)
noncomputable def lQ (a:GCron):Option (Bool):=if a.f0.length≤1050000 then cond (aO a.f0 0 59) (if a.f1.length≤1050000 then cond (aO a.f1 0 23) (if a.f2.length≤1050000 then cond (aO a.f2 1 31) (if a.f3.length≤1050000 then cond (aO a.f3 1 12) (if a.f4.length≤1050000 then some (aO a.f4 0 6)else none) (some (false))else none) (some (false))else none) (some (false))else none) (some (false))else none
theorem vZ (a:GCron):Ans (lQ a) (fun r=>Does E 25 [.agg (BD .far a)] [BG r]):=by
 unfold lQ;apply By;intro b;apply Bw<;>intro c
 ·apply By;intro d;apply Bw<;>intro e
  ·apply By;intro f;apply Bw<;>intro g
   ·apply By;intro h;apply Bw<;>intro i
    ·apply By;intro j;exact Bt (DP Try.f25 [rT,rT,rT,rT,.ret [BG (aO a.f4 0 6)]] (AD (BB (bh a.f0 0 59 b) c)<|AD (BB (bh a.f1 0 23 d) e)<|AD (BB (bh a.f2 1 31 f) g)<|AD (BB (bh a.f3 1 12 h) i)<|AD (bh a.f4 0 6 j)<|AN))
    ·exact Bt (DP Try.f25 [rT,rT,rT,rF] (AD (BB (bh a.f0 0 59 b) c)<|AD (BB (bh a.f1 0 23 d) e)<|AD (BB (bh a.f2 1 31 f) g)<|AD (BB (bh a.f3 1 12 h) i)<|AN))
   ·exact Bt (DP Try.f25 [rT,rT,rF] (AD (BB (bh a.f0 0 59 b) c)<|AD (BB (bh a.f1 0 23 d) e)<|AD (BB (bh a.f2 1 31 f) g)<|AN))
  ·exact Bt (DP Try.f25 [rT,rF] (AD (BB (bh a.f0 0 59 b) c)<|AD (BB (bh a.f1 0 23 d) e)<|AN))
 ·exact Bt (DP Try.f25 [rF] (AD (BB (bh a.f0 0 59 b) c)<|AN))
def aS (c:GCron):Bool:=aO c.f0 0 59&&(aO c.f1 0 23&&(aO c.f2 1 31&&(aO c.f3 1 12&&aO c.f4 0 6)))
theorem b9 (a:GCron)(h:av.sm a):Does E 25 [.agg (BD .far a)] [BG (aS a)]:=by exact vZ a _ (by have b:=h.1.1;have c:=h.2.1.1;have d:=h.2.2.1.1;have e:=h.2.2.2.1.1;have f:=h.2.2.2.2.1;unfold lQ aS;simp only[b,c,d,e,f,CC];cases aO a.f0 0 59<;>cases aO a.f1 0 23<;>cases aO a.f2 1 31<;>cases aO a.f3 1 12<;>rfl)
noncomputable def jx (a:Int):Option (Int×Int):=cond (a==(0:Int)) (some (0,59)) (cond (a==(1:Int)) (some (0,23)) (cond (a==(2:Int)) (some (1,31)) (cond (a==(3:Int)) (some (1,12)) (some (0,6)))))
theorem vO (d:Int):Ans (jx d) (fun r=>Does E 34 [BI d] [BF r.1,BF r.2]):=by
 unfold jx;apply Bw<;>intro a
 ·exact Bt (DP Try.f34 [.b true] (AC a<|AN))
 ·apply Bw<;>intro b
  ·exact Bt (DP Try.f34 [.b false,.b true] (AC a<|AC b<|AN))
  ·apply Bw<;>intro c
   ·exact Bt (DP Try.f34 [.b false,.b false,.b true] (AC a<|AC b<|AC c<|AN))
   ·apply Bw<;>intro e
    ·exact Bt (DP Try.f34 [.b false,.b false,.b false,.b true] (AC a<|AC b<|AC c<|AC e<|AN))
    ·exact Bt (DP Try.f34 [.b false,.b false,.b false,.b false] (AC a<|AC b<|AC c<|AC e<|AN))
noncomputable def aA (x:Int):Int×Int:=(jx x).getD (0,6)
theorem bq (a:Int):Does E 34 [BI a] [BF ((aA a).1),BF ((aA a).2)]:=by exact vO a _ (by refine Tot.getD ?_ _;unfold jx;repeat' (first|exact Tot.some _|apply Tot.cond))
inductive nH where|ret (v2:Bool)|x2
def cT (a b c d e:List Int)(v5 v6:Int)(v7:List Int)(f:Int)(g:List Int)(h i:Int):US:=stL 53 [(1,.box () [BO 1 (a.map etI),BO 1 (b.map etI),BO 1 (c.map etI),BO 1 (d.map etI),BO 1 (e.map etI)]),(5,BI v5),(6,BI v6),(7,.one (BO 1 (v7.map etI))),(10,.clo (.arr [0,1,2,3,4]) [1,1,1,1,1]),(11,BI f),(23,.one (BO 1 (g.map etI))),(24,BI h),(25,BI i)]
def cn (a:Bool):US:=stL 53 [(2,BJ a)]
def br (a b c d e v7:List Int)(f:Int):US:=stL 53 [(1,.box () [BO 1 (a.map etI),BO 1 (b.map etI),BO 1 (c.map etI),BO 1 (d.map etI),BO 1 (e.map etI)]),(7,.one (BO 1 (v7.map etI))),(10,.clo (.arr [0,1,2,3,4]) [1,1,1,1,1]),(11,BI f)]
abbrev gl:US→Exit→US→Prop:=Round E 22 (aI Try.f22 1)
def t8 (a b c d e:List Int)(v5 v6:Int)(v7:List Int)(f:Int)(g:List Int)(h i:Int):nH→Prop| .ret j=>Loops E 22 (aI Try.f22 1) (cT a b c d e v5 v6 v7 f g h i) .ret (cn j)| .x2=>Loops E 22 (aI Try.f22 1) (cT a b c d e v5 v6 v7 f g h i) (.exit 2) (br a b c d e v7 f)
noncomputable def bI (v5 v6:Int)(v7:List Int):List Int→Nat→Option nH|[],i=>some (.x2)|hd::rest,i=>cond (a8 hd v5 v6) (cond (decide ((i:Int)>(0:Int))) ((bd v7 (IntKind.wrap .i64 ((i:Int)-(1:Int)))).bind fun a=>cond (decide (hd≤a)) (some (.ret false)) (bI v5 v6 v7 rest (i+1))) (bI v5 v6 v7 rest (i+1))) (some (.ret false))
theorem gm (b c d e f:List Int)(v5 v6:Int)(v7:List Int)(g:Int)(a:List Int)(rest:List Int):∀(i:Nat) ,(a).drop i=rest→a.length≤9223372036854775807→Ans (bI v5 v6 v7 rest i) (t8 b c d e f v5 v6 v7 g a (a.length:Int) (i:Int)):=by
 induction rest with
 |nil =>intro i h k;have hb:=c9 h;unfold bI;exact Bt (Bv (show gl (cT b c d e f v5 v6 v7 g a (a.length:Int) (i:Int)) (.exit 2) (br b c d e f v7 g)from RP [.b false] (AC hb<|AN)))
 |cons hd rest p =>
  intro i h k;have hb:=cy h;have q:=cz h k;have j:=bu h;have l:=cI h;unfold bI;apply Bw<;>intro m
  ·apply Bw<;>intro n
   ·apply Bx;intro s t;apply Bw<;>intro u
    ·exact Bt (Bv (show gl (cT b c d e f v5 v6 v7 g a (a.length:Int) (i:Int)) .ret (cn false)from RP [.b true,.row (etI hd),rT,.b true,.row (etI s),.b true] (AC hb<|AR etI l<|AD (BB (gf hd v5 v6) m)<|AC n<|AR etI t<|AC u<|AN)))
    ·exact(p (i+1) j k).mono fun y o=>by have r:gl (cT b c d e f v5 v6 v7 g a (a.length:Int) (i:Int)) .normal (cT b c d e f v5 v6 v7 g a (a.length:Int) (inc (i:Int))):=RP [.b true,.row (etI hd),rT,.b true,.row (etI s),.b false] (AC hb<|AR etI l<|AD (BB (gf hd v5 v6) m)<|AC n<|AR etI t<|AC u<|AN);rw[q]at r;cases y<;>exact Bu r o
   ·exact(p (i+1) j k).mono fun y o=>by have r:gl (cT b c d e f v5 v6 v7 g a (a.length:Int) (i:Int)) .normal (cT b c d e f v5 v6 v7 g a (a.length:Int) (inc (i:Int))):=RP [.b true,.row (etI hd),rT,.b false] (AC hb<|AR etI l<|AD (BB (gf hd v5 v6) m)<|AC n<|AN);rw[q]at r;cases y<;>exact Bu r o
  ·exact Bt (Bv (show gl (cT b c d e f v5 v6 v7 g a (a.length:Int) (i:Int)) .ret (cn false)from RP [.b true,.row (etI hd),rF] (AC hb<|AR etI l<|AD (BB (gf hd v5 v6) m)<|AN)))
inductive kC where|ret (v2:Bool)|x0
def aL (a b c d e:List Int)(f:Int):US:=stL 53 [(1,.box () [BO 1 (a.map etI),BO 1 (b.map etI),BO 1 (c.map etI),BO 1 (d.map etI),BO 1 (e.map etI)]),(10,.clo (.arr [0,1,2,3,4]) [1,1,1,1,1]),(11,BI f)]
def bf (a:Bool):US:=stL 53 [(2,BJ a)]
def jh  : US:=stL 53 []
abbrev bc:US→Exit→US→Prop:=Round E 22 (aI Try.f22 0)
def t7 (a b c d e:List Int)(f:Int):kC→Prop| .ret g=>Loops E 22 (aI Try.f22 0) (aL a b c d e f) .ret (bf g)| .x0=>Loops E 22 (aI Try.f22 0) (aL a b c d e f) (.exit 0) (jh)
noncomputable def aR (b c d e f:List Int):Nat→Int→Option kC
 | 0,_=>none
 |n+1,a=>cond (decide (a<(5:Int)))
  (cond (a==(0:Int))
   (if b.length≤9223372036854775807 then(bI ((aA a).1) ((aA a).2) b b 0).bind fun y=>match y with
    | .ret g=>(some (.ret g))
    | .x2=>(cond ((b.length:Int)==(0:Int))
     (some (.ret false))
     (aR b c d e f n (inc a)))else none)
   (cond (a==(1:Int))
    (if c.length≤9223372036854775807 then(bI ((aA a).1) ((aA a).2) c c 0).bind fun y=>match y with
     | .ret g=>(some (.ret g))
     | .x2=>(cond ((c.length:Int)==(0:Int))
      (some (.ret false))
      (aR b c d e f n (inc a)))else none)
    (cond (a==(2:Int))
     (if d.length≤9223372036854775807 then(bI ((aA a).1) ((aA a).2) d d 0).bind fun y=>match y with
      | .ret g=>(some (.ret g))
      | .x2=>(cond ((d.length:Int)==(0:Int))
       (some (.ret false))
       (aR b c d e f n (inc a)))else none)
     (cond (a==(3:Int))
      (if e.length≤9223372036854775807 then(bI ((aA a).1) ((aA a).2) e e 0).bind fun y=>match y with
       | .ret g=>(some (.ret g))
       | .x2=>(cond ((e.length:Int)==(0:Int))
        (some (.ret false))
        (aR b c d e f n (inc a)))else none)
      (if a=(4:Int)then if f.length≤9223372036854775807 then(bI ((aA a).1) ((aA a).2) f f 0).bind fun y=>match y with
       | .ret g=>(some (.ret g))
       | .x2=>(cond ((f.length:Int)==(0:Int))
        (some (.ret false))
        (aR b c d e f n (inc a)))else none else none)))))
  (some (.x0))
theorem t6 (b c d e f:List Int)(n:Nat):∀(a:Int),Ans (aR b c d e f n a) (t7 b c d e f a):=by
 induction n with
 |zero=>intros;exact Ans.none
 |succ n s =>
  intro a;unfold aR;apply Bw<;>intro i
  ·apply Bw<;>intro t
   ·apply By;intro u;apply Bx;intro y h;replace h:=gm b c d e f ((aA a).1) ((aA a).2) b a b b 0 rfl u y h;cases y with
    |ret g =>have m:=h;exact Bt (Bv (show bc (aL b c d e f a) .ret (bf g)from RP [.b true,BL 0,.ret [BF ((aA a).1),BF ((aA a).2)],BL (b.length:Int),.lp .ret (cn g)] (AC i<|AC (p:=a=(0:Int)) (eq_of_beq t)<|AD (bq a)<|ALn b etI<|AL m<|AN)))
    |x2 =>
     have m:=h;apply Bw<;>intro j
     ·exact Bt (Bv (show bc (aL b c d e f a) .ret (bf false)from RP [.b true,BL 0,.ret [BF ((aA a).1),BF ((aA a).2)],BL (b.length:Int),.lp (.exit 2) (br b c d e f b a),BL (b.length:Int),.b true] (AC i<|AC (p:=a=(0:Int)) (eq_of_beq t)<|AD (bq a)<|ALn b etI<|AL m<|ALn b etI<|AC j<|AN)))
     ·have r:bc (aL b c d e f a) .normal (aL b c d e f (inc a)):=RP [.b true,BL 0,.ret [BF ((aA a).1),BF ((aA a).2)],BL (b.length:Int),.lp (.exit 2) (br b c d e f b a),BL (b.length:Int),.b false] (AC i<|AC (p:=a=(0:Int)) (eq_of_beq t)<|AD (bq a)<|ALn b etI<|AL m<|ALn b etI<|AC j<|AN);exact(s (inc a)).mono fun y h=>by cases y<;>exact Bu r h
   ·apply Bw<;>intro m
    ·apply By;intro v;apply Bx;intro y h;replace h:=gm b c d e f ((aA a).1) ((aA a).2) c a c c 0 rfl v y h;cases y with
     |ret g =>have j:=h;exact Bt (Bv (show bc (aL b c d e f a) .ret (bf g)from RP [.b true,BL 1,.ret [BF ((aA a).1),BF ((aA a).2)],BL (c.length:Int),.lp .ret (cn g)] (AC i<|AC (p:=a=(1:Int)) (eq_of_beq m)<|AD (bq a)<|ALn c etI<|AL j<|AN)))
     |x2 =>
      have j:=h;apply Bw<;>intro k
      ·exact Bt (Bv (show bc (aL b c d e f a) .ret (bf false)from RP [.b true,BL 1,.ret [BF ((aA a).1),BF ((aA a).2)],BL (c.length:Int),.lp (.exit 2) (br b c d e f c a),BL (c.length:Int),.b true] (AC i<|AC (p:=a=(1:Int)) (eq_of_beq m)<|AD (bq a)<|ALn c etI<|AL j<|ALn c etI<|AC k<|AN)))
      ·have r:bc (aL b c d e f a) .normal (aL b c d e f (inc a)):=RP [.b true,BL 1,.ret [BF ((aA a).1),BF ((aA a).2)],BL (c.length:Int),.lp (.exit 2) (br b c d e f c a),BL (c.length:Int),.b false] (AC i<|AC (p:=a=(1:Int)) (eq_of_beq m)<|AD (bq a)<|ALn c etI<|AL j<|ALn c etI<|AC k<|AN);exact(s (inc a)).mono fun y h=>by cases y<;>exact Bu r h
    ·apply Bw<;>intro j
     ·apply By;intro w;apply Bx;intro y h;replace h:=gm b c d e f ((aA a).1) ((aA a).2) d a d d 0 rfl w y h;cases y with
      |ret g =>have k:=h;exact Bt (Bv (show bc (aL b c d e f a) .ret (bf g)from RP [.b true,BL 2,.ret [BF ((aA a).1),BF ((aA a).2)],BL (d.length:Int),.lp .ret (cn g)] (AC i<|AC (p:=a=(2:Int)) (eq_of_beq j)<|AD (bq a)<|ALn d etI<|AL k<|AN)))
      |x2 =>
       have k:=h;apply Bw<;>intro l
       ·exact Bt (Bv (show bc (aL b c d e f a) .ret (bf false)from RP [.b true,BL 2,.ret [BF ((aA a).1),BF ((aA a).2)],BL (d.length:Int),.lp (.exit 2) (br b c d e f d a),BL (d.length:Int),.b true] (AC i<|AC (p:=a=(2:Int)) (eq_of_beq j)<|AD (bq a)<|ALn d etI<|AL k<|ALn d etI<|AC l<|AN)))
       ·have r:bc (aL b c d e f a) .normal (aL b c d e f (inc a)):=RP [.b true,BL 2,.ret [BF ((aA a).1),BF ((aA a).2)],BL (d.length:Int),.lp (.exit 2) (br b c d e f d a),BL (d.length:Int),.b false] (AC i<|AC (p:=a=(2:Int)) (eq_of_beq j)<|AD (bq a)<|ALn d etI<|AL k<|ALn d etI<|AC l<|AN);exact(s (inc a)).mono fun y h=>by cases y<;>exact Bu r h
     ·apply Bw<;>intro k
      ·apply By;intro o;apply Bx;intro y h;replace h:=gm b c d e f ((aA a).1) ((aA a).2) e a e e 0 rfl o y h;cases y with
       |ret g =>have l:=h;exact Bt (Bv (show bc (aL b c d e f a) .ret (bf g)from RP [.b true,BL 3,.ret [BF ((aA a).1),BF ((aA a).2)],BL (e.length:Int),.lp .ret (cn g)] (AC i<|AC (p:=a=(3:Int)) (eq_of_beq k)<|AD (bq a)<|ALn e etI<|AL l<|AN)))
       |x2 =>
        have l:=h;apply Bw<;>intro q
        ·exact Bt (Bv (show bc (aL b c d e f a) .ret (bf false)from RP [.b true,BL 3,.ret [BF ((aA a).1),BF ((aA a).2)],BL (e.length:Int),.lp (.exit 2) (br b c d e f e a),BL (e.length:Int),.b true] (AC i<|AC (p:=a=(3:Int)) (eq_of_beq k)<|AD (bq a)<|ALn e etI<|AL l<|ALn e etI<|AC q<|AN)))
        ·have r:bc (aL b c d e f a) .normal (aL b c d e f (inc a)):=RP [.b true,BL 3,.ret [BF ((aA a).1),BF ((aA a).2)],BL (e.length:Int),.lp (.exit 2) (br b c d e f e a),BL (e.length:Int),.b false] (AC i<|AC (p:=a=(3:Int)) (eq_of_beq k)<|AD (bq a)<|ALn e etI<|AL l<|ALn e etI<|AC q<|AN);exact(s (inc a)).mono fun y h=>by cases y<;>exact Bu r h
      ·apply By;intro l;apply By;intro o;apply Bx;intro y h;replace h:=gm b c d e f ((aA a).1) ((aA a).2) f a f f 0 rfl o y h;cases y with
       |ret g =>have q:=h;exact Bt (Bv (show bc (aL b c d e f a) .ret (bf g)from RP [.b true,BL 4,.ret [BF ((aA a).1),BF ((aA a).2)],BL (f.length:Int),.lp .ret (cn g)] (AC i<|AC l<|AD (bq a)<|ALn f etI<|AL q<|AN)))
       |x2 =>
        have q:=h;apply Bw<;>intro x
        ·exact Bt (Bv (show bc (aL b c d e f a) .ret (bf false)from RP [.b true,BL 4,.ret [BF ((aA a).1),BF ((aA a).2)],BL (f.length:Int),.lp (.exit 2) (br b c d e f f a),BL (f.length:Int),.b true] (AC i<|AC l<|AD (bq a)<|ALn f etI<|AL q<|ALn f etI<|AC x<|AN)))
        ·have r:bc (aL b c d e f a) .normal (aL b c d e f (inc a)):=RP [.b true,BL 4,.ret [BF ((aA a).1),BF ((aA a).2)],BL (f.length:Int),.lp (.exit 2) (br b c d e f f a),BL (f.length:Int),.b false] (AC i<|AC l<|AD (bq a)<|ALn f etI<|AL q<|ALn f etI<|AC x<|AN);exact(s (inc a)).mono fun y h=>by cases y<;>exact Bu r h
  ·exact Bt (Bv (show bc (aL b c d e f a) (.exit 0) (jh)from RP [.b false] (AC i<|AN)))
noncomputable def jw (a:GCron):Option (Bool):=
  (aR a.f0 a.f1 a.f2 a.f3 a.f4 9223372036854775808 0).bind fun y=>match y with
   | .ret b=>(some (b))
   | .x0=>(some (true))
theorem vM (x0:GCron):Ans (jw x0) (fun r=>Does E 22 [.agg (BD .far x0)] [BG r]):=by
 unfold jw;apply Bx;intro y b;replace b:=t6 x0.f0 x0.f1 x0.f2 x0.f3 x0.f4 9223372036854775808 0 y b;cases y with
 |ret a =>have c:=b;exact Bt (DP Try.f22 [.lp .ret (bf a)] (AL c<|AN))
 |x0 =>have c:=b;exact Bt (DP Try.f22 [.lp (.exit 0) (jh)] (AL c<|AN))
theorem wv (d:List Int)(a b:Int)(l:d.length≤1050000):∀(rest:List Int)(i:Nat),d.drop i=rest→bI a b d rest i=some (if gp a b rest (dW d i)=true then .x2 else .ret false)
 |[],i,_=>rfl
 |x::rest,i,h=>by
  have j:=wv d a b l rest (i+1) (bu h);rw[qD h]at j;have hi:i<d.length:=by
   rcases BX i d.length with g|g
   ·exact g
   ·rw[Ds g]at h;cases h
  unfold bI gp;rw[j];cases a8 x a b with
  |false=>rfl
  |true =>
   rw[Cs,Er];rcases uQ h with rfl|⟨y,k⟩
   ·simp[dW]
   ·by_cases z:i=0
    ·subst z;simp[dW]
    ·have m:dW d i=some y:=by unfold dW;rw[Ca z,k]
     have n:bd d (IntKind.wrap .i64 ((i:Int)-1))=some y:=by
      rw[ay _ (by omega) (by omega)];have e:((i:Int)-1)=((i-1:Nat):Int):=by omega
      rw[e,iG,k]
     rw[m,n,Cl (by omega:(i:Int)>0),Cs,BT];simp only;by_cases c:y≥x
     ·have f:¬y<x:=by omega
      rw[Cl (show x≤y from c),Cs];simp[f]
     ·have f:y<x:=by omega
      rw[Cj (show ¬x≤y from c),CI];simp[f]
theorem ia (l:List Int)(a b:Int)(c:l.length≤1050000)(K:Option kC):
  ((bI a b l l 0).bind fun y=>match y with
    | .ret w=>some (.ret w)
    | .x2=>cond ((l.length:Int)==(0:Int)) (some (.ret false)) K)=(cond (aO l a b) K (some (.ret false))):=by
 rw[wv l a b c l 0 rfl];unfold aO dW;rw[BU rfl];cases gp a b l none with
 |false=>rfl
 |true =>
  simp only[CC,BT,Er];cases l with
  |nil=>rfl
  |cons x l =>rw[show(((x::l).length:Int)==(0:Int))=false from DI.2 (by simp<;>omega),Cl (by simp<;>omega)];rfl
theorem xK (c:GCron)(h:av.sm c):jw c=some (aS c):=by
 have a:=h.1.1;have b:=h.2.1.1;have d:=h.2.2.1.1;have e:=h.2.2.2.1.1;have f:=h.2.2.2.2.1;unfold jw;have g:∀n,aR c.f0 c.f1 c.f2 c.f3 c.f4 (n+6) 0=some (if aS c=true then .x0 else .ret false):=by
  intro n;have i:aR c.f0 c.f1 c.f2 c.f3 c.f4 (n+1) (inc (inc (inc (inc (inc 0)))))=some .x0:=rfl;have j:aR c.f0 c.f1 c.f2 c.f3 c.f4 (n+2) (inc (inc (inc (inc 0))))=cond (aO c.f4 0 6) (some .x0) (some (.ret false)):=by
   rw[←ia c.f4 0 6 f, ←i]
   conv=>lhs;unfold aR
   show(if inc (inc (inc (inc 0)))=4 then(if c.f4.length≤9223372036854775807 then _ else none)else none)=_;rw[BU (by rfl),BU (by omega)];rfl
  have k:aR c.f0 c.f1 c.f2 c.f3 c.f4 (n+3) (inc (inc (inc 0)))=cond (aO c.f3 1 12) (cond (aO c.f4 0 6) (some .x0) (some (.ret false))) (some (.ret false)):=by
   rw[←ia c.f3 1 12 e, ←j]
   conv=>lhs;unfold aR
   show(if c.f3.length≤9223372036854775807 then _ else none)=_;rw[BU (by omega)];rfl
  have l:aR c.f0 c.f1 c.f2 c.f3 c.f4 (n+4) (inc (inc 0))=cond (aO c.f2 1 31) (cond (aO c.f3 1 12) (cond (aO c.f4 0 6) (some .x0) (some (.ret false))) (some (.ret false))) (some (.ret false)):=by
   rw[←ia c.f2 1 31 d, ←k]
   conv=>lhs;unfold aR
   show(if c.f2.length≤9223372036854775807 then _ else none)=_;rw[BU (by omega)];rfl
  have m:aR c.f0 c.f1 c.f2 c.f3 c.f4 (n+5) (inc 0)=cond (aO c.f1 0 23) (cond (aO c.f2 1 31) (cond (aO c.f3 1 12) (cond (aO c.f4 0 6) (some .x0) (some (.ret false))) (some (.ret false))) (some (.ret false))) (some (.ret false)):=by
   rw[←ia c.f1 0 23 b, ←l]
   conv=>lhs;unfold aR
   show(if c.f1.length≤9223372036854775807 then _ else none)=_;rw[BU (by omega)];rfl
  have o:aR c.f0 c.f1 c.f2 c.f3 c.f4 (n+6) 0=cond (aO c.f0 0 59) (cond (aO c.f1 0 23) (cond (aO c.f2 1 31) (cond (aO c.f3 1 12) (cond (aO c.f4 0 6) (some .x0) (some (.ret false))) (some (.ret false))) (some (.ret false))) (some (.ret false))) (some (.ret false)):=by
   rw[←ia c.f0 0 59 a, ←m]
   conv=>lhs;unfold aR
   show(if c.f0.length≤9223372036854775807 then _ else none)=_;rw[BU (by omega)];rfl
  rw[o];unfold aS;cases aO c.f0 0 59<;>cases aO c.f1 0 23<;>cases aO c.f2 1 31<;>cases aO c.f3 1 12<;>cases aO c.f4 0 6<;>rfl
 rw[g 9223372036854775802];cases aS c<;>rfl
theorem oy (a:GCron)(h:av.sm a):Does E 22 [.agg (BD .far a)] [BG (aS a)]:=by exact vM a _ (xK a h)
noncomputable def mI (b:List Int)(a:Int):Option (Bool):=some ((b.length:Int)==(inc (IntKind.wrap .i64 (((aA a).2)-((aA a).1)))))
theorem w7 (b:List Int)(a:Int):Ans (mI b a) (fun r=>Does E 54 [.one (BO 1 (b.map etI)),BI a] [BG r]):=by unfold mI;exact Bt (DP Try.f54 [.ret [BF ((aA a).1),BF ((aA a).2)],BL (b.length:Int)] (AD (bq a)<|ALn b etI<|AN))
noncomputable def lI (l:List Int)(i:Int):Bool:=(mI l i).getD false
theorem uS (l:List Int):lI l 2=((l.length:Int)==31):=rfl
theorem uT (l:List Int):lI l 4=((l.length:Int)==7):=rfl
theorem dm (a:List Int)(b:Int):Does E 54 [.one (BO 1 (a.map etI)),BI b] [BG (lI a b)]:=by exact w7 a b _ rfl
noncomputable def lR (a:GCron)(b:Int):Option (Bool):=if a.f2.length≤1050000 then cond (aD a.f2 (((aq b).1).f2)) (if a.f4.length≤1050000 then if a.f3.length≤1050000 then cond (aD a.f3 (((aq b).1).f1)) (cond ((a.f2.length:Int)==(31:Int)) (some (aD a.f4 (ak b))) (cond ((a.f4.length:Int)==(7:Int)) (some (aD a.f4 (ak b))) (some (true)))) (some (false))else none else none) (if a.f4.length≤1050000 then if a.f3.length≤1050000 then cond (aD a.f3 (((aq b).1).f1)) (cond ((a.f2.length:Int)==(31:Int)) (some (false)) (cond ((a.f4.length:Int)==(7:Int)) (some (false)) (some (aD a.f4 (ak b))))) (some (false))else none else none)else none
theorem wc (b:GCron)(a:Int):Ans (lR b a) (fun r=>Does E 27 [.agg (BD .far b),BI a] [BG r]):=by
 unfold lR;apply By;intro c;apply Bw<;>intro f1
 ·apply By;intro f2;apply By;intro f3;apply Bw<;>intro f4
  ·apply Bw<;>intro d
   ·exact Bt (DP Try.f27 [.ret [(true,BC ((aq a).1)),BG ((aq a).2)],rT,.ret [BF (ak a)],.ret [BG (aD b.f4 (ak a))],rT,BL (b.f2.length:Int),.b true] (AD (dn a)<|AD (BB (aJ b.f2 (((aq a).1).f2) c) f1)<|AD (cL a)<|AD (aJ b.f4 (ak a) f2)<|AD (BB (aJ b.f3 (((aq a).1).f1) f3) f4)<|ALn b.f2 etI<|AC d<|AN))
   ·apply Bw<;>intro e
    ·exact Bt (DP Try.f27 [.ret [(true,BC ((aq a).1)),BG ((aq a).2)],rT,.ret [BF (ak a)],.ret [BG (aD b.f4 (ak a))],rT,BL (b.f2.length:Int),.b false,BL (b.f4.length:Int),.b true] (AD (dn a)<|AD (BB (aJ b.f2 (((aq a).1).f2) c) f1)<|AD (cL a)<|AD (aJ b.f4 (ak a) f2)<|AD (BB (aJ b.f3 (((aq a).1).f1) f3) f4)<|ALn b.f2 etI<|AC d<|ALn b.f4 etI<|AC e<|AN))
    ·exact Bt (DP Try.f27 [.ret [(true,BC ((aq a).1)),BG ((aq a).2)],rT,.ret [BF (ak a)],.ret [BG (aD b.f4 (ak a))],rT,BL (b.f2.length:Int),.b false,BL (b.f4.length:Int),.b false] (AD (dn a)<|AD (BB (aJ b.f2 (((aq a).1).f2) c) f1)<|AD (cL a)<|AD (aJ b.f4 (ak a) f2)<|AD (BB (aJ b.f3 (((aq a).1).f1) f3) f4)<|ALn b.f2 etI<|AC d<|ALn b.f4 etI<|AC e<|AN))
  ·exact Bt (DP Try.f27 [.ret [(true,BC ((aq a).1)),BG ((aq a).2)],.ret [BG (aD b.f2 (((aq a).1).f2))],.ret [BF (ak a)],.ret [BG (aD b.f4 (ak a))],rF] (AD (dn a)<|AD (aJ b.f2 (((aq a).1).f2) c)<|AD (cL a)<|AD (aJ b.f4 (ak a) f2)<|AD (BB (aJ b.f3 (((aq a).1).f1) f3) f4)<|AN))
 ·apply By;intro f5;apply By;intro f6;apply Bw<;>intro f7
  ·apply Bw<;>intro d
   ·exact Bt (DP Try.f27 [.ret [(true,BC ((aq a).1)),BG ((aq a).2)],rF,.ret [BF (ak a)],.ret [BG (aD b.f4 (ak a))],rT,BL (b.f2.length:Int),.b true] (AD (dn a)<|AD (BB (aJ b.f2 (((aq a).1).f2) c) f1)<|AD (cL a)<|AD (aJ b.f4 (ak a) f5)<|AD (BB (aJ b.f3 (((aq a).1).f1) f6) f7)<|ALn b.f2 etI<|AC d<|AN))
   ·apply Bw<;>intro e
    ·exact Bt (DP Try.f27 [.ret [(true,BC ((aq a).1)),BG ((aq a).2)],rF,.ret [BF (ak a)],.ret [BG (aD b.f4 (ak a))],rT,BL (b.f2.length:Int),.b false,BL (b.f4.length:Int),.b true] (AD (dn a)<|AD (BB (aJ b.f2 (((aq a).1).f2) c) f1)<|AD (cL a)<|AD (aJ b.f4 (ak a) f5)<|AD (BB (aJ b.f3 (((aq a).1).f1) f6) f7)<|ALn b.f2 etI<|AC d<|ALn b.f4 etI<|AC e<|AN))
    ·exact Bt (DP Try.f27 [.ret [(true,BC ((aq a).1)),BG ((aq a).2)],rF,.ret [BF (ak a)],.ret [BG (aD b.f4 (ak a))],rT,BL (b.f2.length:Int),.b false,BL (b.f4.length:Int),.b false] (AD (dn a)<|AD (BB (aJ b.f2 (((aq a).1).f2) c) f1)<|AD (cL a)<|AD (aJ b.f4 (ak a) f5)<|AD (BB (aJ b.f3 (((aq a).1).f1) f6) f7)<|ALn b.f2 etI<|AC d<|ALn b.f4 etI<|AC e<|AN))
  ·exact Bt (DP Try.f27 [.ret [(true,BC ((aq a).1)),BG ((aq a).2)],.ret [BG (aD b.f2 (((aq a).1).f2))],.ret [BF (ak a)],.ret [BG (aD b.f4 (ak a))],rF] (AD (dn a)<|AD (aJ b.f2 (((aq a).1).f2) c)<|AD (cL a)<|AD (aJ b.f4 (ak a) f5)<|AD (BB (aJ b.f3 (((aq a).1).f1) f6) f7)<|AN))
noncomputable def jW (a:GCron)(b:Int)(c:GCivil):Option (Bool):=if a.f3.length≤1050000 then cond (aD a.f3 c.f1) (if a.f2.length≤1050000 then cond (aD a.f2 c.f2) (if a.f4.length≤1050000 then cond (lI a.f2 2) (some (aD a.f4 (ak b))) (cond (lI a.f4 4) (some (aD a.f4 (ak b))) (some (true)))else none) (if a.f4.length≤1050000 then cond (lI a.f2 2) (some (false)) (cond (lI a.f4 4) (some (false)) (some (aD a.f4 (ak b))))else none)else none) (some (false))else none
theorem sr (a:GCron)(b:Int)(c:GCivil):Ans (jW a b c) (fun r=>Does E 46 [.agg (BD .far a),BI b,.agg (BC c)] [BG r]):=by
 unfold jW;apply By;intro d;apply Bw<;>intro e
 ·apply By;intro h;apply Bw<;>intro i
  ·apply By;intro f;apply Bw<;>intro g
   ·exact Bt (DP Try.f46 [rT,rT,.ret [BF (ak b)],.ret [BG (aD a.f4 (ak b))],rT] (AD (BB (ap a.f3 c.f1 d) e)<|AD (BB (ap a.f2 c.f2 h) i)<|AD (dH b)<|AD (ap a.f4 (ak b) f)<|AD (BB (dm a.f2 2) g)<|AN))
   ·apply Bw<;>intro j
    ·exact Bt (DP Try.f46 [rT,rT,.ret [BF (ak b)],.ret [BG (aD a.f4 (ak b))],rF,rT] (AD (BB (ap a.f3 c.f1 d) e)<|AD (BB (ap a.f2 c.f2 h) i)<|AD (dH b)<|AD (ap a.f4 (ak b) f)<|AD (BB (dm a.f2 2) g)<|AD (BB (dm a.f4 4) j)<|AN))
    ·exact Bt (DP Try.f46 [rT,rT,.ret [BF (ak b)],.ret [BG (aD a.f4 (ak b))],rF,rF] (AD (BB (ap a.f3 c.f1 d) e)<|AD (BB (ap a.f2 c.f2 h) i)<|AD (dH b)<|AD (ap a.f4 (ak b) f)<|AD (BB (dm a.f2 2) g)<|AD (BB (dm a.f4 4) j)<|AN))
  ·apply By;intro f;apply Bw<;>intro g
   ·exact Bt (DP Try.f46 [rT,rF,.ret [BF (ak b)],.ret [BG (aD a.f4 (ak b))],rT] (AD (BB (ap a.f3 c.f1 d) e)<|AD (BB (ap a.f2 c.f2 h) i)<|AD (dH b)<|AD (ap a.f4 (ak b) f)<|AD (BB (dm a.f2 2) g)<|AN))
   ·apply Bw<;>intro j
    ·exact Bt (DP Try.f46 [rT,rF,.ret [BF (ak b)],.ret [BG (aD a.f4 (ak b))],rF,rT] (AD (BB (ap a.f3 c.f1 d) e)<|AD (BB (ap a.f2 c.f2 h) i)<|AD (dH b)<|AD (ap a.f4 (ak b) f)<|AD (BB (dm a.f2 2) g)<|AD (BB (dm a.f4 4) j)<|AN))
    ·exact Bt (DP Try.f46 [rT,rF,.ret [BF (ak b)],.ret [BG (aD a.f4 (ak b))],rF,rF] (AD (BB (ap a.f3 c.f1 d) e)<|AD (BB (ap a.f2 c.f2 h) i)<|AD (dH b)<|AD (ap a.f4 (ak b) f)<|AD (BB (dm a.f2 2) g)<|AD (BB (dm a.f4 4) j)<|AN))
 ·exact Bt (DP Try.f46 [rF] (AD (BB (ap a.f3 c.f1 d) e)<|AN))
noncomputable def fE (c:GCron)(m:Int)(v:GCivil):Bool :=aD c.f3 v.f1&&(cond (((c.f2.length:Int)==31)||((c.f4.length:Int)==7)) (aD c.f2 v.f2&&aD c.f4 (ak m)) (aD c.f2 v.f2 ||aD c.f4 (ak m)))
noncomputable def fw (c:GCron)(m:Int):Bool:=fE c m (aq m).1
theorem jr (a:GCron)(b:Int)(h:av.sm a):Does E 27 [.agg (BD .far a),BI b] [BG (fw a b)]:=by exact wc a b _ (by have c:=h.2.2.1.1;have d:=h.2.2.2.1.1;have e:=h.2.2.2.2.1;unfold lR fw fE;simp only[c,d,e,CC,uS,uT];cases aD a.f3 (aq b).1.f1<;>cases aD a.f2 (aq b).1.f2<;>cases(a.f2.length:Int)==31<;>cases(a.f4.length:Int)==7<;>simp)
theorem jL (a:GCron)(c:Int)(b:GCivil)(h:av.sm a):Does E 46 [.agg (BD .far a),BI c,.agg (BC b)] [BG (fE a c b)]:=by exact sr a c b _ (by have d:=h.2.2.1.1;have e:=h.2.2.2.1.1;have f:=h.2.2.2.2.1;unfold jW fE;simp only[d,e,f,CC,uS,uT];cases aD a.f3 b.f1<;>cases aD a.f2 b.f2<;>cases(a.f2.length:Int)==31<;>cases(a.f4.length:Int)==7<;>simp)
theorem rL (c:GCron)(x:Int)(a:0≤x)(b:x≤68374079):fE c x (aq x).1=fw c (x/1440*1440):=by unfold fw fE;rw[(oD x a b).1,(oD x a b).2,xA x a b]
theorem uZ {a b:Int}:∀{l:List Int}{p:Option Int},gp a b l p=true→∀x∈l,a≤x∧x≤b
 |[],_,_,x,hx=>by cases hx
 |y::l,p,h,x,hx=>by
  unfold gp at h;simp only[Cf]at h;rcases Cu.1 hx with rfl|hx
  ·exact bz.1 h.1.1
  ·exact uZ h.2 x hx
theorem uW {l:List Int}{a b:Int}(h:aO l a b=true):∀x∈l,a≤x∧x≤b:=by unfold aO at h;rw[Cf]at h;exact uZ h.1
theorem jt {c:GCron}(h:aS c=true):(∀x∈c.f0,0≤x∧x≤59)∧∀x∈c.f1,0≤x∧x≤23:=by unfold aS at h;simp only[Cf]at h;exact⟨uW h.1,uW h.2.1⟩
inductive nJ where|ret (v4:Int) (v5:Bool)|x2
def fh (l:Int)(a b c d e:List Int)(v6 v8:Int)(f:List Int)(g h:Int)(i:List Int)(j k:Int):US:=stL 42 [(1,BI l),(2,.box () [BO 1 (a.map etI),BO 1 (b.map etI),BO 1 (c.map etI),BO 1 (d.map etI),BO 1 (e.map etI)]),(6,BI v6),(8,BI v8),(17,.one (BO 1 (f.map etI))),(18,BI g),(19,BI h),(24,.one (BO 1 (i.map etI))),(25,BI j),(26,BI k)]
def iL (a:Int)(b:Bool):US:=stL 42 [(4,BI a),(5,BJ b)]
def jk (i:Int)(a b c d e:List Int)(v6:Int)(f:List Int)(g h:Int):US:=stL 42 [(1,BI i),(2,.box () [BO 1 (a.map etI),BO 1 (b.map etI),BO 1 (c.map etI),BO 1 (d.map etI),BO 1 (e.map etI)]),(6,BI v6),(17,.one (BO 1 (f.map etI))),(18,BI g),(19,BI h)]
abbrev kG:US→Exit→US→Prop:=Round E 47 (aI Try.f47 1)
def ue (l:Int)(a b c d e:List Int)(v6 v8:Int)(f:List Int)(g h:Int)(i:List Int)(j k:Int):nJ→Prop| .ret m n=>Loops E 47 (aI Try.f47 1) (fh l a b c d e v6 v8 f g h i j k) .ret (iL m n)| .x2=>Loops E 47 (aI Try.f47 1) (fh l a b c d e v6 v8 f g h i j k) (.exit 2) (jk l a b c d e v6 f g h)
noncomputable def cV (a v6 v8:Int):List Int→Nat→Option nJ|[],i=>some (.x2)|hd::rest,i=>cond (decide ((IntKind.wrap .i64 ((IntKind.wrap .i64 (v6+(IntKind.wrap .i64 (v8*(60:Int)))))+hd))≥a)) (some (.ret (IntKind.wrap .i64 ((IntKind.wrap .i64 (v6+(IntKind.wrap .i64 (v8*(60:Int)))))+hd)) true)) (cV a v6 v8 rest (i+1))
theorem uc (k:Int)(b c d e f:List Int)(v6 v8:Int)(g:List Int)(h j:Int)(a:List Int)(rest:List Int):∀(i:Nat) ,(a).drop i=rest→a.length≤9223372036854775807→Ans (cV k v6 v8 rest i) (ue k b c d e f v6 v8 g h j a (a.length:Int) (i:Int)):=by
 induction rest with
 |nil =>intro i l m;have hb:=c9 l;unfold cV;exact Bt (Bv (show kG (fh k b c d e f v6 v8 g h j a (a.length:Int) (i:Int)) (.exit 2) (jk k b c d e f v6 g h j)from RP [.b false] (AC hb<|AN)))
 |cons hd rest q =>
  intro i l m;have hb:=cy l;have s:=cz l m;have n:=bu l;have o:=cI l;unfold cV;apply Bw<;>intro p
  ·exact Bt (Bv (show kG (fh k b c d e f v6 v8 g h j a (a.length:Int) (i:Int)) .ret (iL (IntKind.wrap .i64 ((IntKind.wrap .i64 (v6+(IntKind.wrap .i64 (v8*(60:Int)))))+hd)) true)from RP [.b true,.row (etI hd),.no,.no,.no,.b true] (AC hb<|AR etI o<|AC p<|AN)))
  ·exact(q (i+1) n m).mono fun y t=>by have r:kG (fh k b c d e f v6 v8 g h j a (a.length:Int) (i:Int)) .normal (fh k b c d e f v6 v8 g h j a (a.length:Int) (inc (i:Int))):=RP [.b true,.row (etI hd),.no,.no,.no,.b false] (AC hb<|AR etI o<|AC p<|AN);rw[s]at r;cases y<;>exact Bu r t
inductive nI where|ret (v4:Int) (v5:Bool)|x0
def fg (i:Int)(a b c d e:List Int)(v6:Int)(f:List Int)(g h:Int):US:=stL 42 [(1,BI i),(2,.box () [BO 1 (a.map etI),BO 1 (b.map etI),BO 1 (c.map etI),BO 1 (d.map etI),BO 1 (e.map etI)]),(6,BI v6),(17,.one (BO 1 (f.map etI))),(18,BI g),(19,BI h)]
def iK (a:Int)(b:Bool):US:=stL 42 [(4,BI a),(5,BJ b)]
def jj  : US:=stL 42 []
abbrev kF:US→Exit→US→Prop:=Round E 47 (aI Try.f47 0)
def ud (k:Int)(a b c d e:List Int)(v6:Int)(f:List Int)(g h:Int):nI→Prop| .ret i j=>Loops E 47 (aI Try.f47 0) (fg k a b c d e v6 f g h) .ret (iK i j)| .x0=>Loops E 47 (aI Try.f47 0) (fg k a b c d e v6 f g h) (.exit 0) (jj)
noncomputable def cU (d:Int)(a:List Int)(v6:Int):List Int→Nat→Option nI
 |[],i=>some (.x0)
 |hd::rest,i=>if a.length≤9223372036854775807 then(cV d v6 hd a 0).bind fun y=>match y with
  | .ret b c=>(some (.ret b c))
  | .x2=>(cU d a v6 rest (i+1))else none
theorem ub (g:Int)(a c d e f:List Int)(v6:Int)(b:List Int)(rest:List Int):∀(i:Nat) ,(b).drop i=rest→b.length≤9223372036854775807→Ans (cU g a v6 rest i) (ud g a c d e f v6 b (b.length:Int) (i:Int)):=by
 induction rest with
 |nil =>intro i k m;have hb:=c9 k;unfold cU;exact Bt (Bv (show kF (fg g a c d e f v6 b (b.length:Int) (i:Int)) (.exit 0) (jj)from RP [.b false] (AC hb<|AN)))
 |cons hd rest s =>
  intro i k m;have hb:=cy k;have t:=cz k m;have n:=bu k;have q:=cI k;unfold cU;apply By;intro o;apply Bx;intro y l;replace l:=uc g a c d e f v6 hd b (b.length:Int) (i:Int) a a 0 rfl o y l;cases y with
  |ret h j =>have p:=l;exact Bt (Bv (show kF (fg g a c d e f v6 b (b.length:Int) (i:Int)) .ret (iK h j)from RP [.b true,.row (etI hd),BL (a.length:Int),.lp .ret (iL h j)] (AC hb<|AR etI q<|ALn a etI<|AL p<|AN)))
  |x2 =>have p:=l;exact(s (i+1) n m).mono fun y l=>by have r:kF (fg g a c d e f v6 b (b.length:Int) (i:Int)) .normal (fg g a c d e f v6 b (b.length:Int) (inc (i:Int))):=RP [.b true,.row (etI hd),BL (a.length:Int),.lp (.exit 2) (jk g a c d e f v6 b (b.length:Int) (i:Int))] (AC hb<|AR etI q<|ALn a etI<|AL p<|AN);rw[t]at r;cases y<;>exact Bu r l
noncomputable def dT (c:GCron)(d:Int):Option (Int×Bool):=
  if c.f1.length≤9223372036854775807 then(cU d c.f0 (IntKind.wrap .i64 (d-(Int.tmod d 1440))) c.f1 0).bind fun y=>match y with
   | .ret a b=>(some (a,b))
   | .x0=>(some (0,false))else none
theorem vQ (x0:GCron)(a:Int):Ans (dT x0 a) (fun r=>Does E 47 [.agg (BD .far x0),BI a] [BF r.1,BG r.2]):=by
 unfold dT;apply By;intro e;apply Bx;intro y d;replace d:=ub a x0.f0 x0.f1 x0.f2 x0.f3 x0.f4 (IntKind.wrap .i64 (a-(Int.tmod a 1440))) x0.f1 x0.f1 0 rfl e y d;cases y with
 |ret b c =>have f:=d;exact Bt (DP Try.f47 [.no,.no,BL (x0.f1.length:Int),.lp .ret (iK b c)] (ALn x0.f1 etI<|AL f<|AN))
 |x0 =>have f:=d;exact Bt (DP Try.f47 [.no,.no,BL (x0.f1.length:Int),.lp (.exit 0) (jj)] (ALn x0.f1 etI<|AL f<|AN))
def eX (d a h:Int)(b:List Int):Option Int:=(b.map fun x=>d*1440+h*60+x).find? fun m=>decide (m≥a)
def di (d a:Int)(b c:List Int):Option Int:=b.findSome? fun h=>eX d a h c
noncomputable def dj (c:GCron)(x:Int):Int×Bool:=(dT c x).getD (0,false)
theorem yv (d a h:Int)(f:0≤d)(g:d<47482)(hh:0≤h∧h≤23):∀(b:List Int)(i:Nat),(∀x∈b,0≤x∧x≤59) →
  cV a (d*1440) h b i=some (match eX d a h b with|some m=>.ret m true|none=>.x2)
 |[],i,_=>rfl
 |x::b,i,c=>by
  have k:=c x (by simp);unfold cV;have e:IntKind.wrap .i64 (IntKind.wrap .i64 (d*1440+IntKind.wrap .i64 (h*60))+x)=d*1440+h*60+x:=by rw[ay (h*60) (by omega) (by omega),ay (d*1440+h*60) (by omega) (by omega),ay _ (by omega) (by omega)]
  rw[e,yv d a h f g hh b (i+1) fun y j=>c y (by simp[j])];unfold eX;rw[Cc,DX];cases decide (d*1440+h*60+x≥a)<;>rfl
theorem wY (d a:Int)(e:0≤d)(f:d<47482)(b:List Int)(j:b.length≤1050000)(g:∀x∈b,0≤x∧x≤59):∀(c:List Int)(i:Nat),(∀x∈c,0≤x∧x≤23) →
  cU a b (d*1440) c i=some (match di d a c b with|some m=>.ret m true|none=>.x0)
 |[],i,_=>rfl
 |h::c,i,hh=>by unfold cU;rw[BU (by omega),yv d a h e f (hh h (by simp)) b 0 g,wY d a e f b j g c (i+1) fun y k=>hh y (by simp[k])];unfold di;rw[DJ];cases eX d a h b<;>rfl
theorem xg (c:GCron)(x:Int)(h:av.sm c)(hc:aS c=true)(a:0≤x)(g:x≤68374079):dT c x=some (dj c x)∧dj c x=(match di (x/1440) x c.f1 c.f0 with|some m=>(m,true)|none=>(0,false)):=by
 obtain⟨b,hh⟩:=jt hc;have e:dT c x=some (match di (x/1440) x c.f1 c.f0 with|some m=>(m,true)|none=>(0,false)):=by
  unfold dT;have d:IntKind.wrap .i64 (x-Int.tmod x 1440)=x/1440*1440:=by rw[CY a,ay _ (by omega) (by omega)];omega
  have f:=h.1.1;have i:=h.2.1.1;rw[d,BU (by omega),wY (x/1440) x (by omega) (by omega) c.f0 f b c.f1 0 hh];cases di (x/1440) x c.f1 c.f0<;>rfl
 have p:dj c x=(match di (x/1440) x c.f1 c.f0 with|some m=>(m,true)|none=>(0,false)):=by unfold dj;rw[e];rfl
 exact⟨by rw[p];exact e,p⟩
theorem vV (c:GCron)(x:Int)(h:av.sm c):dT c x=some (dj c x):=by
 refine Tot.getD ?_ _;have g:=h.1.1;have j:=h.2.1.1;have e:∀(a b k:Int)(l:List Int)(i:Nat),Tot (cV a b k l i):=by
  intro a b k l;induction l with
  |nil=>exact fun i=>Tot.some _
  |cons y l d=>intro i;unfold cV;exact Tot.cond (Tot.some _) (d _)
 have f:∀(a b:Int)(l:List Int)(i:Nat),Tot (cU a c.f0 b l i):=by
  intro a b l;induction l with
  |nil=>exact fun i=>Tot.some _
  |cons y l d =>
   intro i;unfold cU;refine Tot.ite (by omega) (Tot.bind (e _ _ _ _ _) fun z hz=>?_);cases z
   ·exact Tot.some _
   ·exact d _
 unfold dT;refine Tot.ite (by omega) (Tot.bind (f _ _ _ _) fun z hz=>?_);cases z<;>exact Tot.some _
theorem vg (a:GCron)(b:Int)(h:av.sm a):Does E 47 [.agg (BD .far a),BI b] [BF ((dj a b).1),BG ((dj a b).2)]:=by exact vQ a b _ (vV a b h)
theorem mb (a:GCron)(b:Int)(h:av.sm a){d:Bool}(c:(dj a b).2=d):Does E 47 [.agg (BD .far a),BI b] [BF ((dj a b).1),BG d]:=by rw[←c];exact vg a b h
inductive ji where|ret (v6:Int) (v7:Bool)|x0
def ca (f v2:Int)(a b c d e:List Int)(v8:Int):US:=stL 45 [(1,BI f),(2,BI v2),(3,.box () [BO 1 (a.map etI),BO 1 (b.map etI),BO 1 (c.map etI),BO 1 (d.map etI),BO 1 (e.map etI)]),(8,BI v8)]
def gH (a:Int)(b:Bool):US:=stL 45 [(6,BI a),(7,BJ b)]
def fx  : US:=stL 45 []
abbrev eY:US→Exit→US→Prop:=Round E 36 (aI Try.f36 0)
def qV (h v2:Int)(a b c d e:List Int)(v8:Int):ji→Prop| .ret f g=>Loops E 36 (aI Try.f36 0) (ca h v2 a b c d e v8) .ret (gH f g)| .x0=>Loops E 36 (aI Try.f36 0) (ca h v2 a b c d e v8) (.exit 0) (fx)
noncomputable def bQ (v2:Int)(a b c d e:List Int):Nat→Int→Int→Option ji| 0,_,_=>none|n+1,f,v8=>cond (decide (v8≤(cr v2 3000))) (cond (da f) (if av.sm (GCron.mk a b c d e)then cond (fE (GCron.mk a b c d e) f ((aq f).1)) (cond ((dj (GCron.mk a b c d e) f).2) (some (.ret ((dj (GCron.mk a b c d e) f).1) true)) (bQ v2 a b c d e n (IntKind.wrap .i64 (f+(IntKind.wrap .i64 ((1440:Int)-(Int.tmod f 1440))))) (inc v8))) (bQ v2 a b c d e n (IntKind.wrap .i64 (f+(IntKind.wrap .i64 ((1440:Int)-(Int.tmod f 1440))))) (inc v8))else none) (some (.x0))) (some (.x0))
theorem qU (v2:Int)(a b c d e:List Int)(n:Nat):∀(f v8:Int),Ans (bQ v2 a b c d e n f v8) (qV f v2 a b c d e v8):=by
 induction n with
 |zero=>intros;exact Ans.none
 |succ n l =>
  intro f v8;unfold bQ;apply Bw<;>intro g
  ·apply Bw<;>intro i
   ·apply By;intro h;apply Bw<;>intro j
    ·apply Bw<;>intro m
     ·exact Bt (Bv (show eY (ca f v2 a b c d e v8) .ret (gH ((dj (GCron.mk a b c d e) f).1) true)from RP [BL (cr v2 3000),.b true,rT,.ret [(true,BC ((aq f).1)),BG ((aq f).2)],rT,.ret [BF ((dj (GCron.mk a b c d e) f).1),BG true]] (AC (p:=(if(3000:Int)<v2 then 3000 else v2)=cr v2 3000) rfl<|AC g<|AD (BB (cX f) i)<|AD (ku f)<|AD (BB (jL (GCron.mk a b c d e) f ((aq f).1) h) j)<|AD (mb (GCron.mk a b c d e) f h m)<|AN)))
     ·have r:eY (ca f v2 a b c d e v8) .normal (ca (IntKind.wrap .i64 (f+(IntKind.wrap .i64 ((1440:Int)-(Int.tmod f 1440))))) v2 a b c d e (inc v8)):=RP [BL (cr v2 3000),.b true,rT,.ret [(true,BC ((aq f).1)),BG ((aq f).2)],rT,.ret [BF ((dj (GCron.mk a b c d e) f).1),BG false]] (AC (p:=(if(3000:Int)<v2 then 3000 else v2)=cr v2 3000) rfl<|AC g<|AD (BB (cX f) i)<|AD (ku f)<|AD (BB (jL (GCron.mk a b c d e) f ((aq f).1) h) j)<|AD (mb (GCron.mk a b c d e) f h m)<|AN);exact(l (IntKind.wrap .i64 (f+(IntKind.wrap .i64 ((1440:Int)-(Int.tmod f 1440))))) (inc v8)).mono fun y k=>by cases y<;>exact Bu r k
    ·have r:eY (ca f v2 a b c d e v8) .normal (ca (IntKind.wrap .i64 (f+(IntKind.wrap .i64 ((1440:Int)-(Int.tmod f 1440))))) v2 a b c d e (inc v8)):=RP [BL (cr v2 3000),.b true,rT,.ret [(true,BC ((aq f).1)),BG ((aq f).2)],rF] (AC (p:=(if(3000:Int)<v2 then 3000 else v2)=cr v2 3000) rfl<|AC g<|AD (BB (cX f) i)<|AD (ku f)<|AD (BB (jL (GCron.mk a b c d e) f ((aq f).1) h) j)<|AN);exact(l (IntKind.wrap .i64 (f+(IntKind.wrap .i64 ((1440:Int)-(Int.tmod f 1440))))) (inc v8)).mono fun y k=>by cases y<;>exact Bu r k
   ·exact Bt (Bv (show eY (ca f v2 a b c d e v8) (.exit 0) (fx)from RP [BL (cr v2 3000),.b true,rF] (AC (p:=(if(3000:Int)<v2 then 3000 else v2)=cr v2 3000) rfl<|AC g<|AD (BB (cX f) i)<|AN)))
  ·exact Bt (Bv (show eY (ca f v2 a b c d e v8) (.exit 0) (fx)from RP [BL (cr v2 3000),.b false] (AC (p:=(if(3000:Int)<v2 then 3000 else v2)=cr v2 3000) rfl<|AC g<|AN)))
noncomputable def ig (a:GCron)(d e:Int):Option (Int×Bool):=
  (bQ e a.f0 a.f1 a.f2 a.f3 a.f4 9223372036854775808 d 0).bind fun y=>match y with
   | .ret b c=>(some (b,c))
   | .x0=>(some (0,false))
theorem sv (x0:GCron)(d e:Int):Ans (ig x0 d e) (fun r=>Does E 36 [.agg (BD .far x0),BI d,BI e] [BF r.1,BG r.2]):=by
 unfold ig;apply Bx;intro y c;replace c:=qU e x0.f0 x0.f1 x0.f2 x0.f3 x0.f4 9223372036854775808 d 0 y c;cases y with
 |ret a b =>have f:=c;exact Bt (DP Try.f36 [.lp .ret (gH a b)] (AL f<|AN))
 |x0 =>have f:=c;exact Bt (DP Try.f36 [.lp (.exit 0) (fx)] (AL f<|AN))
inductive l5 where|ret (v6:Int) (v7:Bool)|x4
def dM (g v2:Int)(a b c d e:List Int)(v8 v9 v10 f:Int):US:=stL 80 [(1,BI g),(2,BI v2),(3,.box () [BO 1 (a.map etI),BO 1 (b.map etI),BO 1 (c.map etI),BO 1 (d.map etI),BO 1 (e.map etI)]),(8,BI v8),(9,BI v9),(10,BI v10),(11,BI f)]
def gM (a:Int)(b:Bool):US:=stL 80 [(6,BI a),(7,BJ b)]
def iw (f v2:Int)(a b c d e:List Int)(v8 v9 v10:Int):US:=stL 80 [(1,BI f),(2,BI v2),(3,.box () [BO 1 (a.map etI),BO 1 (b.map etI),BO 1 (c.map etI),BO 1 (d.map etI),BO 1 (e.map etI)]),(8,BI v8),(9,BI v9),(10,BI v10)]
abbrev jo:US→Exit→US→Prop:=Round E 11 (aI Try.f11 2)
def rc (g v2:Int)(a b c d e:List Int)(v8 v9 v10 f:Int):l5→Prop| .ret h i=>Loops E 11 (aI Try.f11 2) (dM g v2 a b c d e v8 v9 v10 f) .ret (gM h i)| .x4=>Loops E 11 (aI Try.f11 2) (dM g v2 a b c d e v8 v9 v10 f) (.exit 4) (iw g v2 a b c d e v8 v9 v10)
noncomputable def df (b:Int)(a:List Int)(v9 v10:Int):List Int→Nat→Option l5|[],i=>some (.x4)|hd::rest,i=>(bd a v10).bind fun c=>cond (decide ((IntKind.wrap .i64 ((IntKind.wrap .i64 ((IntKind.wrap .i64 (v9*(1440:Int)))+(IntKind.wrap .i64 (c*(60:Int)))))+hd))≥b)) (some (.ret (IntKind.wrap .i64 ((IntKind.wrap .i64 ((IntKind.wrap .i64 (v9*(1440:Int)))+(IntKind.wrap .i64 (c*(60:Int)))))+hd)) true)) (df b a v9 v10 rest (i+1))
theorem q9 (f v2:Int)(a b c d e:List Int)(v8 v9 v10:Int)(rest:List Int):∀(i:Nat) ,(a).drop i=rest→a.length≤9223372036854775807→Ans (df f b v9 v10 rest i) (rc f v2 a b c d e v8 v9 v10 (i:Int)):=by
 induction rest with
 |nil =>intro i g h;have hb:=c9 g;unfold df;exact Bt (Bv (show jo (dM f v2 a b c d e v8 v9 v10 (i:Int)) (.exit 4) (iw f v2 a b c d e v8 v9 v10)from RP [BL (a.length:Int),.b false] (ALn a etI<|AC hb<|AN)))
 |cons hd rest o =>
  intro i g h;have hb:=cy g;have p:=cz g h;have j:=bu g;have l:=cI g;unfold df;apply Bx;intro k m;apply Bw<;>intro n
  ·exact Bt (Bv (show jo (dM f v2 a b c d e v8 v9 v10 (i:Int)) .ret (gM (IntKind.wrap .i64 ((IntKind.wrap .i64 ((IntKind.wrap .i64 (v9*(1440:Int)))+(IntKind.wrap .i64 (k*(60:Int)))))+hd)) true)from RP [BL (a.length:Int),.b true,.row (etI k),.row (etI hd),.no,.b true] (ALn a etI<|AC hb<|AR etI m<|AR etI l<|AC n<|AN)))
  ·exact(o (i+1) j h).mono fun y q=>by have r:jo (dM f v2 a b c d e v8 v9 v10 (i:Int)) .normal (dM f v2 a b c d e v8 v9 v10 (inc (i:Int))):=RP [BL (a.length:Int),.b true,.row (etI k),.row (etI hd),.no,.b false] (ALn a etI<|AC hb<|AR etI m<|AR etI l<|AC n<|AN);rw[p]at r;cases y<;>exact Bu r q
inductive l4 where|ret (v6:Int) (v7:Bool)|x2
def dL (f v2:Int)(a b c d e:List Int)(v8 v9 v10:Int):US:=stL 80 [(1,BI f),(2,BI v2),(3,.box () [BO 1 (a.map etI),BO 1 (b.map etI),BO 1 (c.map etI),BO 1 (d.map etI),BO 1 (e.map etI)]),(8,BI v8),(9,BI v9),(10,BI v10)]
def gL (a:Int)(b:Bool):US:=stL 80 [(6,BI a),(7,BJ b)]
def iv (f v2:Int)(a b c d e:List Int)(v8 v9:Int):US:=stL 80 [(1,BI f),(2,BI v2),(3,.box () [BO 1 (a.map etI),BO 1 (b.map etI),BO 1 (c.map etI),BO 1 (d.map etI),BO 1 (e.map etI)]),(8,BI v8),(9,BI v9)]
abbrev jn:US→Exit→US→Prop:=Round E 11 (aI Try.f11 1)
def rb (f v2:Int)(a b c d e:List Int)(v8 v9 v10:Int):l4→Prop| .ret g h=>Loops E 11 (aI Try.f11 1) (dL f v2 a b c d e v8 v9 v10) .ret (gL g h)| .x2=>Loops E 11 (aI Try.f11 1) (dL f v2 a b c d e v8 v9 v10) (.exit 2) (iv f v2 a b c d e v8 v9)
noncomputable def de (e:Int)(a b:List Int)(v9:Int):List Int→Nat→Option l4
 |[],i=>some (.x2)
 |hd::rest,i=>if a.length≤9223372036854775807 then(df e b v9 (i:Int) a 0).bind fun y=>match y with
  | .ret c d=>(some (.ret c d))
  | .x4=>(de e a b v9 rest (i+1))else none
theorem qZ (f v2:Int)(b a c d e:List Int)(v8 v9:Int)(rest:List Int):∀(i:Nat) ,(a).drop i=rest→a.length≤9223372036854775807→Ans (de f b a v9 rest i) (rb f v2 b a c d e v8 v9 (i:Int)):=by
 induction rest with
 |nil =>intro i j l;have hb:=c9 j;unfold de;exact Bt (Bv (show jn (dL f v2 b a c d e v8 v9 (i:Int)) (.exit 2) (iv f v2 b a c d e v8 v9)from RP [BL (a.length:Int),.b false] (ALn a etI<|AC hb<|AN)))
 |cons hd rest p =>
  intro i j l;have hb:=cy j;have q:=cz j l;have m:=bu j;have s:=cI j;unfold de;apply By;intro n;apply Bx;intro y k;replace k:=q9 f v2 b a c d e v8 v9 (i:Int) b 0 rfl n y k;cases y with
  |ret g h =>have o:=k;exact Bt (Bv (show jn (dL f v2 b a c d e v8 v9 (i:Int)) .ret (gL g h)from RP [BL (a.length:Int),.b true,.lp .ret (gM g h)] (ALn a etI<|AC hb<|AL o<|AN)))
  |x4 =>have o:=k;exact(p (i+1) m l).mono fun y k=>by have r:jn (dL f v2 b a c d e v8 v9 (i:Int)) .normal (dL f v2 b a c d e v8 v9 (inc (i:Int))):=RP [BL (a.length:Int),.b true,.lp (.exit 4) (iw f v2 b a c d e v8 v9 (i:Int))] (ALn a etI<|AC hb<|AL o<|AN);rw[q]at r;cases y<;>exact Bu r k
inductive l3 where|ret (v6:Int) (v7:Bool)|x0
def ce (f v2:Int)(a b c d e:List Int)(v8 v9:Int):US:=stL 80 [(1,BI f),(2,BI v2),(3,.box () [BO 1 (a.map etI),BO 1 (b.map etI),BO 1 (c.map etI),BO 1 (d.map etI),BO 1 (e.map etI)]),(8,BI v8),(9,BI v9)]
def eR (a:Int)(b:Bool):US:=stL 80 [(6,BI a),(7,BJ b)]
def dX  : US:=stL 80 []
abbrev e7:US→Exit→US→Prop:=Round E 11 (aI Try.f11 0)
def ra (h v2:Int)(a b c d e:List Int)(v8 v9:Int):l3→Prop| .ret f g=>Loops E 11 (aI Try.f11 0) (ce h v2 a b c d e v8 v9) .ret (eR f g)| .x0=>Loops E 11 (aI Try.f11 0) (ce h v2 a b c d e v8 v9) (.exit 0) (dX)
noncomputable def cf (h v2:Int)(b a c d e:List Int)(v8:Int):Nat→Int→Option l3
 | 0,_=>none
 |n+1,v9=>cond (decide (v9≤(IntKind.wrap .i64 (v8+v2))))
  (cond (decide ((IntKind.wrap .i64 (v9*(1440:Int)))≤(68374079:Int)))
   (if av.sm (GCron.mk b a c d e)then cond (fw (GCron.mk b a c d e) (IntKind.wrap .i64 (v9*(1440:Int))))
    (if a.length≤9223372036854775807 then(de h b a v9 a 0).bind fun y=>match y with
     | .ret f g=>(some (.ret f g))
     | .x2=>(cf h v2 b a c d e v8 n (inc v9))else none)
    (cf h v2 b a c d e v8 n (inc v9))else none)
   (some (.x0)))
  (some (.x0))
theorem lZ (f v2:Int)(b a c d e:List Int)(v8:Int)(n:Nat):∀(v9:Int),Ans (cf f v2 b a c d e v8 n v9) (ra f v2 b a c d e v8 v9):=by
 induction n with
 |zero=>intros;exact Ans.none
 |succ n q =>
  intro v9;unfold cf;apply Bw<;>intro j
  ·apply Bw<;>intro k
   ·apply By;intro l;apply Bw<;>intro m
    ·apply By;intro o;apply Bx;intro y g;replace g:=qZ f v2 b a c d e v8 v9 a 0 rfl o y g;cases y with
     |ret h i =>have p:=g;exact Bt (Bv (show e7 (ce f v2 b a c d e v8 v9) .ret (eR h i)from RP [.no,.b true,.no,.b true,rT,.lp .ret (gL h i)] (AC j<|AC k<|AD (BB (jr (GCron.mk b a c d e) (IntKind.wrap .i64 (v9*(1440:Int))) l) m)<|AL p<|AN)))
     |x2 =>have p:=g;have r:e7 (ce f v2 b a c d e v8 v9) .normal (ce f v2 b a c d e v8 (inc v9)):=RP [.no,.b true,.no,.b true,rT,.lp (.exit 2) (iv f v2 b a c d e v8 v9)] (AC j<|AC k<|AD (BB (jr (GCron.mk b a c d e) (IntKind.wrap .i64 (v9*(1440:Int))) l) m)<|AL p<|AN);exact(q (inc v9)).mono fun y g=>by cases y<;>exact Bu r g
    ·have r:e7 (ce f v2 b a c d e v8 v9) .normal (ce f v2 b a c d e v8 (inc v9)):=RP [.no,.b true,.no,.b true,rF] (AC j<|AC k<|AD (BB (jr (GCron.mk b a c d e) (IntKind.wrap .i64 (v9*(1440:Int))) l) m)<|AN);exact(q (inc v9)).mono fun y g=>by cases y<;>exact Bu r g
   ·exact Bt (Bv (show e7 (ce f v2 b a c d e v8 v9) (.exit 0) (dX)from RP [.no,.b true,.no,.b false] (AC j<|AC k<|AN)))
  ·exact Bt (Bv (show e7 (ce f v2 b a c d e v8 v9) (.exit 0) (dX)from RP [.no,.b false] (AC j<|AN)))
noncomputable def ix (a:GCron)(d e:Int):Option (Int×Bool):=
  if av.sm a then cond (aS a)
   (cond (a8 d 0 68374079)
    (cond (decide (e<(0:Int)))
     (some (0,false))
     (cond (decide (e>(3000:Int)))
      ((cf d 3000 a.f0 a.f1 a.f2 a.f3 a.f4 (IntKind.wrap .i64 (Int.tdiv d 1440)) 9223372036854775808 (IntKind.wrap .i64 (Int.tdiv d 1440))).bind fun y=>match y with
       | .ret b c=>(some (b,c))
       | .x0=>(some (0,false)))
      ((cf d e a.f0 a.f1 a.f2 a.f3 a.f4 (IntKind.wrap .i64 (Int.tdiv d 1440)) 9223372036854775808 (IntKind.wrap .i64 (Int.tdiv d 1440))).bind fun y=>match y with
       | .ret b c=>(some (b,c))
       | .x0=>(some (0,false)))))
    (some (0,false)))
   (some (0,false))else none
theorem tb (x0:GCron)(a k:Int):Ans (ix x0 a k) (fun r=>Does E 11 [.agg (BD .far x0),BI a,BI k] [BF r.1,BG r.2]):=by
 unfold ix;apply By;intro e;apply Bw<;>intro f
 ·apply Bw<;>intro h
  ·apply Bw<;>intro i
   ·exact Bt (DP Try.f11 [rT,rT,.b true] (AD (BB (b9 x0 e) f)<|AD (BB (a5 a 0 68374079) h)<|AC i<|AN))
   ·apply Bw<;>intro j
    ·apply Bx;intro y d;replace d:=lZ a 3000 x0.f0 x0.f1 x0.f2 x0.f3 x0.f4 (IntKind.wrap .i64 (Int.tdiv a 1440)) 9223372036854775808 (IntKind.wrap .i64 (Int.tdiv a 1440)) y d;cases y with
     |ret b c =>have g:=d;exact Bt (DP Try.f11 [rT,rT,.b false,.b true,.lp .ret (eR b c)] (AD (BB (b9 x0 e) f)<|AD (BB (a5 a 0 68374079) h)<|AC i<|AC j<|AL g<|AN))
     |x0 =>have g:=d;exact Bt (DP Try.f11 [rT,rT,.b false,.b true,.lp (.exit 0) (dX)] (AD (BB (b9 x0 e) f)<|AD (BB (a5 a 0 68374079) h)<|AC i<|AC j<|AL g<|AN))
    ·apply Bx;intro y d;replace d:=lZ a k x0.f0 x0.f1 x0.f2 x0.f3 x0.f4 (IntKind.wrap .i64 (Int.tdiv a 1440)) 9223372036854775808 (IntKind.wrap .i64 (Int.tdiv a 1440)) y d;cases y with
     |ret b c =>have g:=d;exact Bt (DP Try.f11 [rT,rT,.b false,.b false,.lp .ret (eR b c)] (AD (BB (b9 x0 e) f)<|AD (BB (a5 a 0 68374079) h)<|AC i<|AC j<|AL g<|AN))
     |x0 =>have g:=d;exact Bt (DP Try.f11 [rT,rT,.b false,.b false,.lp (.exit 0) (dX)] (AD (BB (b9 x0 e) f)<|AD (BB (a5 a 0 68374079) h)<|AC i<|AC j<|AL g<|AN))
  ·exact Bt (DP Try.f11 [rT,rF] (AD (BB (b9 x0 e) f)<|AD (BB (a5 a 0 68374079) h)<|AN))
 ·exact Bt (DP Try.f11 [rF] (AD (BB (b9 x0 e) f)<|AN))
noncomputable def ib (c:GCron)(a:Int):Nat→Int→Option Int
 | 0,_=>none
 |n+1,d=>if d*1440≤68374079 then(if fw c (d*1440)=true then(match di d (max a (d*1440)) c.f1 c.f0 with|some m=>some m|none=>ib c a n (d+1))else ib c a n (d+1))else none
noncomputable def an (c:GCron)(a b:Int):Int×Bool:=if da a=true then(match ib c a 401 (a/1440)with|some m=>(m,true)|none=>(0,false))else(0,false)
noncomputable def aj (c:GCron)(a b:Int):Int×Bool:=if aS c=true then an c a b else(0,false)
theorem yw (d a h:Int)(j:0≤d)(l:d<47482)(hh:0≤h∧h≤23)(c:List Int)(k:Nat)(f:c[k]?=some h):∀(b:List Int)(i:Nat),(∀x∈b,0≤x∧x≤59) →
  df a c d (k:Int) b i=some (match eX d a h b with|some m=>.ret m true|none=>.x4)
 |[],i,_=>rfl
 |x::b,i,g=>by
  have o:=g x (by simp);unfold df;rw[iG,f,BT];have e:IntKind.wrap .i64 (IntKind.wrap .i64 (IntKind.wrap .i64 (d*1440)+IntKind.wrap .i64 (h*60))+x)=d*1440+h*60+x:=by rw[ay (h*60) (by omega) (by omega),ay (d*1440) (by omega) (by omega),ay (d*1440+h*60) (by omega) (by omega),ay _ (by omega) (by omega)]
  rw[e,yw d a h j l hh c k f b (i+1) fun y n=>g y (by simp[n])];unfold eX;rw[Cc,DX];cases decide (d*1440+h*60+x≥a)<;>rfl
theorem wZ (d b:Int)(f:0≤d)(g:d<47482)(e c:List Int)(l:c.length≤1050000)(j:∀x∈c,0≤x∧x≤59):∀(a:List Int)(i:Nat),e.drop i=a→(∀x∈a,0≤x∧x≤23) →
  de b c e d a i=some (match di d b a c with|some m=>.ret m true|none=>.x2)
 |[],i,_,_=>rfl
 |h::a,i,k,hh=>by
  have n:e[i]?=some h:=by rw[←List.head?_drop,k];rfl
  unfold de;rw[BU (by omega),yw d b h f g (hh h (by simp)) e i n c 0 j,wZ d b f g e c l j a (i+1) (bu k) fun y o=>hh y (by simp[o])];unfold di;rw[DJ];cases eX d b h c<;>rfl
theorem vF (d a h:Int)(hh:0≤h)(b:List Int)(c:∀x∈b,0≤x∧x≤59):eX d (max a (d*1440)) h b=eX d a h b:=by
 induction b with
 |nil=>rfl
 |cons x b e =>
  have g:=c x (by simp);unfold eX at e ⊢;rw[Cc,DX,DX,e fun y f=>c y (by simp[f])];have:decide (d*1440+h*60+x≥max a (d*1440))=decide (d*1440+h*60+x≥a):=by rw[decide_eq_decide];omega
  rw[this]
theorem vE (d b:Int)(a c:List Int)(hh:∀x∈a,0≤x∧x≤23)(f:∀x∈c,0≤x∧x≤59):di d (max b (d*1440)) a c=di d b a c:=by
 induction a with
 |nil=>rfl
 |cons h a e =>unfold di at e ⊢;rw[DJ,DJ,vF d b h (hh h (by simp)).1 c f,e fun y g=>hh y (by simp[g])]
theorem wU (c:GCron)(a:Int)(h:av.sm c)(hc:aS c=true)(first:Int)(b:0≤first)(e:first<47482):∀(m n:Nat)(d:Int),d+m=first+401→first≤d→m<n →
  cf a 400 c.f0 c.f1 c.f2 c.f3 c.f4 first n d=some (match ib c a m d with|some x=>.ret x true|none=>.x0)
 |m,0,d,_,_,g=>by omega
 | 0,n+1,d,hd,_,_=>by unfold cf;rw[ay (first+400) (by omega) (by omega),Cj (by omega)];rfl
 |m+1,n+1,d,hd,i,g=>by
  obtain⟨f,hh⟩:=jt hc;have j:=wU c a h hc first b e m n (d+1) (by omega) (by omega) (by omega)
  have l:=h.2.1.1;have k:=h.1.1;unfold cf ib;rw[ay (first+400) (by omega) (by omega),Cl (by omega),Cs,ay (d*1440) (by omega) (by omega),fJ d (by omega) (by omega),j];by_cases q:d*1440≤68374079
  ·rw[Cl q,BU q,Cs,BU (show av.sm (GCron.mk c.f0 c.f1 c.f2 c.f3 c.f4)from h)];show cond (fw c (d*1440)) _ _=_;cases fw c (d*1440)with
   |false=>rfl
   |true =>rw[Cs,BU rfl,BU (by omega),wZ d a (by omega) (by omega) c.f1 c.f0 k f c.f1 0 rfl hh,vE d a c.f1 c.f0 hh f];cases di d a c.f1 c.f0<;>rfl
  ·rw[Cj q,Ca q];rfl
theorem wT (c:GCron)(a:Int)(h:av.sm c)(hc:aS c=true)(first:Int)(hf:first=a/1440)(g:0≤a)(i:a≤68374079):∀(m n:Nat)(d v:Int),d+m=first+401→first≤d→m<n→v=max a (d*1440) →
  bQ 400 c.f0 c.f1 c.f2 c.f3 c.f4 n v (d-first)=some (match ib c a m d with|some x=>.ret x true|none=>.x0)
 |m,0,d,v,_,_,o,_=>by omega
 | 0,n+1,d,v,hd,_,_,_=>by unfold bQ;have:cr 400 3000=400:=rfl;rw[this,Cj (by omega)];rfl
 |m+1,n+1,d,v,hd,p,o,hv=>by
  have u:0≤d:=by omega
  have w:d≤50000:=by omega
  have b:v/1440=d:=by omega
  have f:0≤v:=by omega
  have y:v<(d+1)*1440:=by omega
  have r:IntKind.wrap .i64 (v+IntKind.wrap .i64 (1440-Int.tmod v 1440))=(d+1)*1440:=by rw[CY f,ay (1440-v % 1440) (by omega) (by omega),ay _ (by omega) (by omega)];omega
  have s:=wT c a h hc first hf g i m n (d+1) ((d+1)*1440) (by omega) (by omega) (by omega) (by omega)
  have t:inc (d-first)=d+1-first:=by rw[fJ _ (by omega) (by omega)];omega
  unfold bQ ib;have j:cr 400 3000=400:=rfl;rw[j,Cl (by omega),Cs,r,t,s];have sm:av.sm (GCron.mk c.f0 c.f1 c.f2 c.f3 c.f4):=h;simp only[BU sm];by_cases q:d*1440≤68374079
  ·have e:da v=true:=bz.2 ⟨f,by omega⟩;have k:=rL c v f (bz.1 e).2;rw[b]at k;have l:=(xg c v h hc f (bz.1 e).2).2;rw[b,hv]at l;rw[BU q,e,Cs];show cond (fE c v (aq v).1) _ _=_;rw[k];cases fw c (d*1440)with
   |false=>rfl
   |true =>rw[Cs,BU rfl];show cond (dj c v).2 (some (ji.ret (dj c v).1 true)) _=_;rw[hv,l];cases di d (max a (d*1440)) c.f1 c.f0<;>rfl
  ·have e:da v=false:=by
    cases z:da v with
    |false=>rfl
    |true=>exact absurd (bz.1 z).2 (by omega)
   rw[Ca q,e];rfl
theorem vT (c:GCron)(a:Int)(h:av.sm c)(hc:aS c=true):ig c a 400=some (an c a 400):=by
 unfold ig an;cases q:da a with
 |false =>
  have:bQ 400 c.f0 c.f1 c.f2 c.f3 c.f4 9223372036854775808 a 0=some .x0:=by unfold bQ;have b:cr 400 3000=400:=rfl;rw[b,Cl (by omega),Cs,q];rfl
  rw[this];rfl
 |true =>obtain⟨f0,f1⟩:=bz.1 q;have:=wT c a h hc (a/1440) rfl f0 f1 401 9223372036854775808 (a/1440) a (by omega) (by omega) (by omega) (by omega);rw[show a/1440-a/1440=0 by omega]at this;rw[this,BU rfl];cases ib c a 401 (a/1440)<;>rfl
theorem vU (c:GCron)(a:Int)(h:av.sm c):ix c a 400=some (aj c a 400):=by
 unfold ix aj;try rw[BU h]
 cases hc:aS c with
 |false=>rfl
 |true =>
  rw[Cs,BU rfl];unfold an;cases q:da a with
  |false =>have:a8 a 0 68374079=false:=q;rw[this];rfl
  |true =>
   have b:a8 a 0 68374079=true:=q;obtain⟨f0,f1⟩:=bz.1 q;have e:IntKind.wrap .i64 (Int.tdiv a 1440)=a/1440:=by rw[Cr f0];exact ay _ (by omega) (by omega)
   have:=wU c a h hc (a/1440) (by omega) (by omega) 401 9223372036854775808 (a/1440) (by omega) (by omega) (by omega);rw[b,Cs,Cj (by omega),CI,Cj (by omega),CI,e,this,BU rfl];cases ib c a 401 (a/1440)<;>rfl
theorem mc (a:GCron)(b:Int)(c:Int)(h:av.sm a)(hc:aS a=true)(hd:c=400):Does E 36 [.agg (BD .far a),BI b,BI c] [BF ((an a b c).1),BG ((an a b c).2)]:=by subst hd;exact sv a b 400 _ (vT a b h hc)
theorem iD (a:GCron)(c:Int)(b:Int)(h:av.sm a)(hc:aS a=true)(hd:b=400){e:Bool}(d:(an a c b).2=e):Does E 36 [.agg (BD .far a),BI c,BI b] [BF ((an a c b).1),BG e]:=by rw[←d];exact mc a c b h hc hd
theorem g9 (a:GCron)(b:Int)(c:Int)(h:av.sm a)(hd:c=400):Does E 11 [.agg (BD .far a),BI b,BI c] [BF ((aj a b c).1),BG ((aj a b c).2)]:=by subst hd;exact tb a b 400 _ (vU a b h)
theorem be (a:GCron)(c:Int)(b:Int)(h:av.sm a)(hd:b=400){e:Bool}(d:(aj a c b).2=e):Does E 11 [.agg (BD .far a),BI c,BI b] [BF ((aj a c b).1),BG e]:=by rw[←d];exact g9 a c b h hd
end
end Go.Proofs.Ytlhgcolciklecaa.Am
