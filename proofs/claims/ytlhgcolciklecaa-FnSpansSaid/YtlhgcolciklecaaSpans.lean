/- Spans, and what is told of them. -/
import Derived.Test.YtlhgcolciklecaaRules
namespace Go.Proofs.Ytlhgcolciklecaa.Am
open Go
set_option linter.unusedVariables false
set_option linter.unusedSimpArgs false
section
open Go.Proofs Classical
set_option maxRecDepth 100000
inductive mK where|x0 (v9:List GSpan)
def dz (v2 v3:Int)(a b c d e:List Int)(v9:List GSpan)(v10:Int)(f:Bool):US:=stL 49 [(2,BI v2),(3,BI v3),(4,.box () [BO 1 (a.map etI),BO 1 (b.map etI),BO 1 (c.map etI),BO 1 (d.map etI),BO 1 (e.map etI)]),(9,.one (BN 2 (v9.map BE))),(10,BI v10),(11,BJ f)]
def dr (a:List GSpan):US:=stL 49 [(9,.one (BN 2 (a.map BE)))]
abbrev fI:US→Exit→US→Prop:=Round E 23 (aI Try.f23 0)
def sA (v2 v3:Int)(a b c d e:List Int)(v9:List GSpan)(v10:Int)(f:Bool):mK→Prop| .x0 g=>Loops E 23 (aI Try.f23 0) (dz v2 v3 a b c d e v9 v10 f) (.exit 0) (dr g)
noncomputable def dA (v2 v3:Int)(a b c d e:List Int):Nat→(List GSpan)→Int→Bool→Option mK
 | 0,_,_,_=>none
 |n+1,v9,v10,f=>match f with
  |true=>cond (decide ((v9.length:Int)<v3))
   (if av.sm (GCron.mk a b c d e)then if aS (GCron.mk a b c d e)=true then if(400:Int)=400 then cond ((an (GCron.mk a b c d e) (inc v10) 400).2)
    (cond (decide (((an (GCron.mk a b c d e) (inc v10) 400).1)>v2))
     (some (.x0 v9))
     (if(v9.length+([(GSpan.mk v10 ((an (GCron.mk a b c d e) (inc v10) 400).1))]).length)*16≤140737488355328∧v9.length+([(GSpan.mk v10 ((an (GCron.mk a b c d e) (inc v10) 400).1))]).length≤4611686018427387904 then dA v2 v3 a b c d e n (v9++([(GSpan.mk v10 ((an (GCron.mk a b c d e) (inc v10) 400).1))])) ((an (GCron.mk a b c d e) (inc v10) 400).1) true else none))
    (some (.x0 v9))else none else none else none)
   (some (.x0 v9))
  |false=>some (.x0 v9)
theorem sw (v2 v3:Int)(a b c d e:List Int)(n:Nat):∀(v9:List GSpan)(v10:Int)(f:Bool),Ans (dA v2 v3 a b c d e n v9 v10 f) (sA v2 v3 a b c d e v9 v10 f):=by
 induction n with
 |zero=>intros;exact Ans.none
 |succ n m =>
  intro v9 v10 f;unfold dA;cases f with
  |true =>
   apply Bw<;>intro g
   ·apply By;intro h;apply By;intro i;apply By;intro j;apply Bw<;>intro k
    ·apply Bw<;>intro l
     ·exact Bt (Bv (show fI (dz v2 v3 a b c d e v9 v10 true) (.exit 0) (dr v9)from RP [BL (v9.length:Int),.b true,.ret [BF ((an (GCron.mk a b c d e) (inc v10) 400).1),BG true],.b true] (ALn v9 BE<|AC g<|AD (iD (GCron.mk a b c d e) (inc v10) 400 h i j k)<|AC l<|AN)))
     ·apply By;intro o;have r:fI (dz v2 v3 a b c d e v9 v10 true) .normal (dz v2 v3 a b c d e (v9++([(GSpan.mk v10 ((an (GCron.mk a b c d e) (inc v10) 400).1))])) ((an (GCron.mk a b c d e) (inc v10) 400).1) true):=RP [BL (v9.length:Int),.b true,.ret [BF ((an (GCron.mk a b c d e) (inc v10) 400).1),BG true],.b false,.rows ((v9++([(GSpan.mk v10 ((an (GCron.mk a b c d e) (inc v10) 400).1))])).map BE)] (ALn v9 BE<|AC g<|AD (iD (GCron.mk a b c d e) (inc v10) 400 h i j k)<|AC l<|AAp BE (fun _=>rfl) o<|AN);exact(m (v9++([(GSpan.mk v10 ((an (GCron.mk a b c d e) (inc v10) 400).1))])) ((an (GCron.mk a b c d e) (inc v10) 400).1) true).mono fun y p=>by cases y<;>exact Bu r p
    ·exact Bt (Bv (show fI (dz v2 v3 a b c d e v9 v10 true) (.exit 0) (dr v9)from RP [BL (v9.length:Int),.b true,.ret [BF ((an (GCron.mk a b c d e) (inc v10) 400).1),BG false]] (ALn v9 BE<|AC g<|AD (iD (GCron.mk a b c d e) (inc v10) 400 h i j k)<|AN)))
   ·exact Bt (Bv (show fI (dz v2 v3 a b c d e v9 v10 true) (.exit 0) (dr v9)from RP [BL (v9.length:Int),.b false] (ALn v9 BE<|AC g<|AN)))
  |false =>exact Bt (Bv (show fI (dz v2 v3 a b c d e v9 v10 false) (.exit 0) (dr v9)from RP [] AN))
noncomputable def kH (a:GCron)(c d e:Int):Option ((List GSpan)):=
  if av.sm a then if aS a=true then if(400:Int)=400 then(dA d e a.f0 a.f1 a.f2 a.f3 a.f4 9223372036854775808 ([]) ((an a c 400).1) ((an a c 400).2)).bind fun y=>match y with
   | .x0 b=>(some (b))else none else none else none
theorem uf (x0:GCron)(a c d:Int):Ans (kH x0 a c d) (fun r=>Does E 23 [.agg (BD .far x0),BI a,BI c,BI d] [(false,[BN 2 (r.map BE)])]):=by
 unfold kH;apply By;intro f;apply By;intro g;apply By;intro h;apply Bx;intro y e;replace e:=sw c d x0.f0 x0.f1 x0.f2 x0.f3 x0.f4 9223372036854775808 ([]) ((an x0 a 400).1) ((an x0 a 400).2) y e;cases y with
 |x0 b =>have i:=e;exact Bt (DP Try.f23 [.ret [BF ((an x0 a 400).1),BG ((an x0 a 400).2)],.lp (.exit 0) (dr b)] (AD (mc x0 a 400 f g h)<|AL i<|AN))
inductive l6 where|ret (v10:List GSpan)|x0 (v4:List GSpan)
def cg (v2 v3:Int)(v4:List GSpan)(a b c d e:List Int)(f:Int)(g:Bool):US:=stL 55 [(2,BI v2),(3,BI v3),(4,.one (BN 2 (v4.map BE))),(5,.box () [BO 1 (a.map etI),BO 1 (b.map etI),BO 1 (c.map etI),BO 1 (d.map etI),BO 1 (e.map etI)]),(11,BI f),(12,BJ g)]
def eT (a:List GSpan):US:=stL 55 [(10,.one (BN 2 (a.map BE)))]
def dY (a:List GSpan):US:=stL 55 [(4,.one (BN 2 (a.map BE)))]
abbrev dN:US→Exit→US→Prop:=Round E 24 (aI Try.f24 0)
def rg (v2 v3:Int)(v4:List GSpan)(a b c d e:List Int)(f:Int)(g:Bool):l6→Prop| .ret h=>Loops E 24 (aI Try.f24 0) (cg v2 v3 v4 a b c d e f g) .ret (eT h)| .x0 i=>Loops E 24 (aI Try.f24 0) (cg v2 v3 v4 a b c d e f g) (.exit 0) (dY i)
noncomputable def ch (v2 v3:Int)(a b c d e:List Int):Nat→(List GSpan)→Int→Bool→Option l6
 | 0,_,_,_=>none
 |n+1,v4,f,g=>match g with
  |true=>cond (decide ((v4.length:Int)<v3))
   (cond (decide (f<(68374079:Int)))
    (if av.sm (GCron.mk a b c d e)then if(400:Int)=400 then cond ((aj (GCron.mk a b c d e) (inc f) 400).2)
     (cond (decide (((aj (GCron.mk a b c d e) (inc f) 400).1)>v2))
      (some (.ret v4))
      (if(v4.length+([(GSpan.mk f ((aj (GCron.mk a b c d e) (inc f) 400).1))]).length)*16≤140737488355328∧v4.length+([(GSpan.mk f ((aj (GCron.mk a b c d e) (inc f) 400).1))]).length≤4611686018427387904 then ch v2 v3 a b c d e n (v4++([(GSpan.mk f ((aj (GCron.mk a b c d e) (inc f) 400).1))])) ((aj (GCron.mk a b c d e) (inc f) 400).1) true else none))
     (some (.ret v4))else none else none)
    (some (.x0 v4)))
   (some (.x0 v4))
  |false=>some (.x0 v4)
theorem rf (v2 v3:Int)(a b c d e:List Int)(n:Nat):∀(v4:List GSpan)(f:Int)(g:Bool),Ans (ch v2 v3 a b c d e n v4 f g) (rg v2 v3 v4 a b c d e f g):=by
 induction n with
 |zero=>intros;exact Ans.none
 |succ n o =>
  intro v4 f g;unfold ch;cases g with
  |true =>
   apply Bw<;>intro h
   ·apply Bw<;>intro i
    ·apply By;intro j;apply By;intro k;apply Bw<;>intro l
     ·apply Bw<;>intro m
      ·exact Bt (Bv (show dN (cg v2 v3 v4 a b c d e f true) .ret (eT v4)from RP [BL (v4.length:Int),.b true,.b true,.ret [BF ((aj (GCron.mk a b c d e) (inc f) 400).1),BG true],.b true] (ALn v4 BE<|AC h<|AC i<|AD (be (GCron.mk a b c d e) (inc f) 400 j k l)<|AC m<|AN)))
      ·apply By;intro p;have r:dN (cg v2 v3 v4 a b c d e f true) .normal (cg v2 v3 (v4++([(GSpan.mk f ((aj (GCron.mk a b c d e) (inc f) 400).1))])) a b c d e ((aj (GCron.mk a b c d e) (inc f) 400).1) true):=RP [BL (v4.length:Int),.b true,.b true,.ret [BF ((aj (GCron.mk a b c d e) (inc f) 400).1),BG true],.b false,.rows ((v4++([(GSpan.mk f ((aj (GCron.mk a b c d e) (inc f) 400).1))])).map BE)] (ALn v4 BE<|AC h<|AC i<|AD (be (GCron.mk a b c d e) (inc f) 400 j k l)<|AC m<|AAp BE (fun _=>rfl) p<|AN);exact(o (v4++([(GSpan.mk f ((aj (GCron.mk a b c d e) (inc f) 400).1))])) ((aj (GCron.mk a b c d e) (inc f) 400).1) true).mono fun y q=>by cases y<;>exact Bu r q
     ·exact Bt (Bv (show dN (cg v2 v3 v4 a b c d e f true) .ret (eT v4)from RP [BL (v4.length:Int),.b true,.b true,.ret [BF ((aj (GCron.mk a b c d e) (inc f) 400).1),BG false]] (ALn v4 BE<|AC h<|AC i<|AD (be (GCron.mk a b c d e) (inc f) 400 j k l)<|AN)))
    ·exact Bt (Bv (show dN (cg v2 v3 v4 a b c d e f true) (.exit 0) (dY v4)from RP [BL (v4.length:Int),.b true,.b false] (ALn v4 BE<|AC h<|AC i<|AN)))
   ·exact Bt (Bv (show dN (cg v2 v3 v4 a b c d e f true) (.exit 0) (dY v4)from RP [BL (v4.length:Int),.b false] (ALn v4 BE<|AC h<|AN)))
  |false =>exact Bt (Bv (show dN (cg v2 v3 v4 a b c d e f false) (.exit 0) (dY v4)from RP [] AN))
noncomputable def iA (a:GCron)(d e f:Int)(g:List GSpan):Option ((List GSpan)):=
  if av.sm a then if(400:Int)=400 then(ch e f a.f0 a.f1 a.f2 a.f3 a.f4 9223372036854775808 g ((aj a d 400).1) ((aj a d 400).2)).bind fun y=>match y with
   | .ret b=>(some (b))
   | .x0 c=>(some (c))else none else none
theorem tp (x0:GCron)(a e f:Int)(g:List GSpan):Ans (iA x0 a e f g) (fun r=>Does E 24 [.agg (BD .far x0),BI a,BI e,BI f,.one (BN 2 (g.map BE))] [(false,[.any]),(false,[BN 2 (r.map BE)])]):=by
 unfold iA;apply By;intro i;apply By;intro j;apply Bx;intro y d;replace d:=rf e f x0.f0 x0.f1 x0.f2 x0.f3 x0.f4 9223372036854775808 g ((aj x0 a 400).1) ((aj x0 a 400).2) y d;cases y with
 |ret b =>have h:=d;exact Bt (DP Try.f24 [.ret [BF ((aj x0 a 400).1),BG ((aj x0 a 400).2)],.lp .ret (eT b)] (AD (g9 x0 a 400 i j)<|AL h<|AN))
 |x0 c =>have h:=d;exact Bt (DP Try.f24 [.ret [BF ((aj x0 a 400).1),BG ((aj x0 a 400).2)],.lp (.exit 0) (dY c)] (AD (g9 x0 a 400 i j)<|AL h<|AN))
noncomputable def cq (c:GCron)(b d:Int):Nat→List GSpan→Int→Bool→List GSpan| 0,a,_,_=>a|n+1,a,at_,ok =>if ok=true∧(a.length:Int)<d then if(an c (inc at_) 400).2=true∧¬(an c (inc at_) 400).1>b then cq c b d n (a++[⟨at_,(an c (inc at_) 400).1⟩]) (an c (inc at_) 400).1 true else a else a
noncomputable def jK (c:GCron)(a b d:Int):List GSpan:=cq c b d 201 [] (an c a 400).1 (an c a 400).2
noncomputable def db (c:GCron)(a b d:Int)(e:List GSpan):List GSpan:=if aS c=true then jK c a b d else []
theorem tX {d f h m:Int}:∀{mins:List Int},eX d f h mins=some m→∃x∈mins,m=d*1440+h*60+x∧f≤m
 |mins,e=>by unfold eX at e;have a:=List.mem_of_find?_eq_some e;have b:=List.find?_some e;obtain⟨x,c,rfl⟩:=B8.1 a;exact⟨x,c,rfl,DN b⟩
theorem tW {d f m:Int}{a b:List Int}(e:di d f a b=some m):∃h∈a,∃x∈b,m=d*1440+h*60+x∧f≤m:=by unfold di at e;obtain⟨h,c,g⟩:=List.exists_of_findSome?_eq_some e;obtain⟨x,i,j⟩:=tX g;exact⟨h,c,x,i,j⟩
theorem jv {c:GCron}{f m:Int}:∀(n:Nat)(d:Int),ib c f n d=some m→∃a,d≤a∧a*1440≤68374079∧fw c (a*1440)=true∧∃h∈c.f1,∃x∈c.f0,m=a*1440+h*60+x∧f≤m
 | 0,d,e=>by cases e
 |n+1,d,e=>by
  unfold ib at e;split at e
  case isFalse=>cases e
  rename_i hd;split at e
  ·rename_i i;split at e
   ·rename_i l j;cases e;obtain⟨h,g,x,b,k,o⟩:=tW j;exact⟨d,Int.le_refl _,hd,i,h,g,x,b,k,by omega⟩
   ·obtain⟨a,g,b⟩:=jv n (d+1) e;exact⟨a,by omega,b⟩
  ·obtain⟨a,g,b⟩:=jv n (d+1) e;exact⟨a,by omega,b⟩
theorem gy {c:GCron}(hc:aS c=true){f:Int}(e:(an c f 400).2=true):f≤(an c f 400).1∧(an c f 400).1≤68374079∧0≤f:=by
 unfold an at e ⊢;split at e
 ·rename_i a;rw[BU a];split at e
  ·rename_i m b;obtain⟨n,o,p,q,h,d,x,g,r,i⟩:=jv _ _ b;obtain⟨j,k⟩:=jt hc;have s:=j x g;have t:=k h d;have l:=(bz.1 a).1;exact⟨i,by simp only;omega,l⟩
  ·cases e
 ·cases e
theorem yh {c:GCron}{a:Int}(h:¬a<68374079)(b:a≤68374079):(an c (inc a) 400).2=false:=by
 have:a=68374079:=by omega
 subst this;rfl
theorem u4 (c:GCron)(d e:Int)(h:av.sm c)(hc:aS c=true)(g:e≤200):∀(m n:Nat)(b:List GSpan)(a:Int)(ok:Bool),201≤m+b.length→m<n →
  dA d e c.f0 c.f1 c.f2 c.f3 c.f4 n b a ok=some (.x0 (cq c d e m b a ok))
 |m,0,b,a,ok,_,i=>by omega
 | 0,n+1,b,a,ok,j,_=>by
  unfold dA cq;cases ok with
  |false=>rfl
  |true=>simp only;rw[Cj (by omega)];rfl
 |m+1,n+1,b,a,ok,j,i=>by
  have sm:av.sm (GCron.mk c.f0 c.f1 c.f2 c.f3 c.f4):=h;have f:aS (GCron.mk c.f0 c.f1 c.f2 c.f3 c.f4)=true:=hc;have k:=fun b a=>u4 c d e h hc g m n b a true
  have l:GCron.mk c.f0 c.f1 c.f2 c.f3 c.f4=c:=rfl;unfold dA cq;cases ok with
  |false=>simp
  |true =>
   simp only[BU sm,BU f,Eq,CC];rw[l];by_cases q:(b.length:Int)<e
   ·rw[Cl q,BU q,Cs];cases(an c (inc a) 400).2 with
    |false=>simp
    |true =>
     by_cases r:(an c (inc a) 400).1>d
     ·rw[Cl r];simp[r]
     ·have o:(b.length+([(GSpan.mk a (an c (inc a) 400).1)]).length)*16≤140737488355328∧b.length+([(GSpan.mk a (an c (inc a) 400).1)]).length≤4611686018427387904:=by simp;omega
      rw[Cj r,Cs,CI,BU o,BU (⟨rfl,r⟩:true=true∧¬(an c (inc a) 400).1>d)];exact k _ _ (by simp;omega) (by omega)
   ·rw[Cj q,Ca q];rfl
theorem u5 (c:GCron)(d e:Int)(h:av.sm c)(hc:aS c=true)(f:e≤200):∀(m n:Nat)(b:List GSpan)(a:Int)(ok:Bool),201≤m+b.length→m<n→(ok=true→a≤68374079) →
  ∃r,ch d e c.f0 c.f1 c.f2 c.f3 c.f4 n b a ok=some r∧(r = .ret (cq c d e m b a ok)∨r = .x0 (cq c d e m b a ok))
 |m,0,b,a,ok,_,g,_=>by omega
 | 0,n+1,b,a,ok,i,_,_=>by
  unfold ch cq;cases ok with
  |false=>exact⟨_,rfl,.inr rfl⟩
  |true=>simp only;rw[Cj (by omega)];exact⟨_,rfl,.inr rfl⟩
 |m+1,n+1,b,a,ok,i,g,j=>by
  have sm:av.sm (GCron.mk c.f0 c.f1 c.f2 c.f3 c.f4):=h;have k:=fun b a=>u5 c d e h hc f m n b a true
  have l:aj c (inc a) 400=an c (inc a) 400:=by unfold aj;rw[BU hc]
  have o:GCron.mk c.f0 c.f1 c.f2 c.f3 c.f4=c:=rfl;unfold ch cq;cases ok with
  |false=>exact⟨_,rfl,.inr (by simp)⟩
  |true =>
   simp only[BU sm,Eq,CC];rw[o,l];by_cases q:(b.length:Int)<e
   ·rw[Cl q,BU q,Cs];by_cases z:a<68374079
    ·rw[Cl z,Cs];cases p:(an c (inc a) 400).2 with
     |false=>exact⟨_,rfl,.inl (by simp)⟩
     |true =>
      by_cases r:(an c (inc a) 400).1>d
      ·rw[Cl r];exact⟨_,rfl,.inl (by simp[r])⟩
      ·have s:(b.length+([(GSpan.mk a (an c (inc a) 400).1)]).length)*16≤140737488355328∧b.length+([(GSpan.mk a (an c (inc a) 400).1)]).length≤4611686018427387904:=by simp;omega
       rw[Cj r,Cs,CI,BU s,BU (⟨rfl,r⟩:true=true∧¬(an c (inc a) 400).1>d)];exact k _ _ (by simp;omega) (by omega) fun _=>(gy hc p).2.1
    ·rw[Cj z,CI,yh z (j rfl)];exact⟨_,rfl,.inr (by simp)⟩
   ·rw[Cj q,Ca q];exact⟨_,rfl,.inr rfl⟩
theorem zh (c:GCron)(a d b:Int)(h:av.sm c)(f:b≤200):iA c a d b []=some (db c a d b []):=by
 unfold iA;simp only[BU h,CC];have e:∃r,ch d b c.f0 c.f1 c.f2 c.f3 c.f4 9223372036854775808 [] (aj c a 400).1 (aj c a 400).2=some r∧(r = .ret (db c a d b [])∨r = .x0 (db c a d b [])):=by
  unfold db aj;cases hc:aS c with
  |false =>simp only[Ce,CH];unfold ch;exact⟨_,rfl,.inr rfl⟩
  |true =>simp only[CC];exact u5 c d b h hc f 201 9223372036854775808 [] (an c a 400).1 (an c a 400).2 (by simp) (by omega) fun g=>(gy hc g).2.1
 obtain⟨r,i,j⟩:=e;rw[i,BT];rcases j with rfl|rfl<;>rfl
theorem tG (a:GCron)(d:Int)(c:Int)(b:Int)(h:av.sm a)(hc:aS a=true)(e:b≤200):Does E 23 [.agg (BD .far a),BI d,BI c,BI b] [(false,[BN 2 ((jK a d c b).map BE)])]:=by exact uf a d c b _ (by unfold kH;simp only[BU h,BU hc,CC];rw[u4 a c b h hc e 201 9223372036854775808 [] _ _ (by simp) (by omega)];rfl)
theorem me (a:GCron)(c:Int)(d:Int)(b:Int)(e:List GSpan)(h:av.sm a)(f:b≤200)(g:e=[]):Does E 24 [.agg (BD .far a),BI c,BI d,BI b,.one (BN 2 (e.map BE))] [(false,[.any]),(false,[BN 2 ((db a c d b e).map BE)])]:=by subst g;exact tp a c d b [] _ (zh a c d b h f)
noncomputable def mH (a:GCron)(c d b:Int):Option ((List GSpan)):=if av.sm a then cond (aS a) (if aS a=true then if(cr b (20:Int))≤200 then some (jK a c d (cr b 20))else none else none) (some (([]:List GSpan)))else none
theorem w6 (b:GCron)(c d a:Int):Ans (mH b c d a) (fun r=>Does E 8 [.agg (BD .far b),BI c,BI d,BI a] [(false,[BN 2 (r.map BE)])]):=by
 unfold mH;apply By;intro e;apply Bw<;>intro f
 ·apply By;intro g;apply By;intro h;exact Bt (DP Try.f8 [rT,BL (cr a 20),.ret [(false,[BN 2 ((jK b c d (cr a 20)).map BE)])]] (AD (BB (oy b e) f)<|AC (p:=(if(20:Int)<a then 20 else a)=cr a 20) rfl<|AD (tG b c d (cr a 20) e g h)<|AN))
 ·exact Bt (DP Try.f8 [rF] (AD (BB (oy b e) f)<|AN))
noncomputable def m9 (a:GCron)(c d b:Int):Option ((List GSpan)):=cond (decide (b>(20:Int))) (if av.sm a then if(20:Int)≤200 then if([]:List GSpan)=[]then some (db a c d 20 ([]:List GSpan))else none else none else none) (if av.sm a then if b≤200 then if([]:List GSpan)=[]then some (db a c d b ([]:List GSpan))else none else none else none)
theorem xn (a:GCron)(b c d:Int):Ans (m9 a b c d) (fun r=>Does E 10 [.agg (BD .far a),BI b,BI c,BI d] [(false,[BN 2 (r.map BE)])]):=by
 unfold m9;apply Bw<;>intro h
 ·apply By;intro e;apply By;intro f;apply By;intro g;exact Bt (DP Try.f10 [.b true,.ret [(false,[.any]),(false,[BN 2 ((db a b c 20 ([]:List GSpan)).map BE)])]] (AC h<|AV (ψ:=fun k=>E.C k 24 [.agg (BD .far a),BI b,BI c,BI 20,.one (BN 2 (([]:List GSpan).map BE))]=some [(false,[.any]),(false,[BN 2 ((db a b c 20 ([]:List GSpan)).map BE)])]) (me a b c 20 ([]:List GSpan) e f g)<|AN))
 ·apply By;intro e;apply By;intro f;apply By;intro g;exact Bt (DP Try.f10 [.b false,.ret [(false,[.any]),(false,[BN 2 ((db a b c d ([]:List GSpan)).map BE)])]] (AC h<|AV (ψ:=fun k=>E.C k 24 [.agg (BD .far a),BI b,BI c,BI d,.one (BN 2 (([]:List GSpan).map BE))]=some [(false,[.any]),(false,[BN 2 ((db a b c d ([]:List GSpan)).map BE)])]) (me a b c d ([]:List GSpan) e f g)<|AN))
noncomputable def ae (c:GCron)(a b d:Int):List GSpan:=if aS c=true then jK c a b (cr d 20)else []
theorem cK (a:GCron)(c:Int)(d:Int)(b:Int)(h:av.sm a):Does E 8 [.agg (BD .far a),BI c,BI d,BI b] [(false,[BN 2 ((ae a c d b).map BE)])]:=by
 exact w6 a c d b _ (by
  unfold mH ae;have e:cr b 20≤200:=by unfold cr;split<;>omega
  simp only[BU h,BU e];cases q:aS a<;>simp)
theorem eF (b:GCron)(c:Int)(d:Int)(a:Int)(h:av.sm b):Does E 10 [.agg (BD .far b),BI c,BI d,BI a] [(false,[BN 2 ((ae b c d a).map BE)])]:=by
 exact xn b c d a _ (by
  unfold m9 ae db cr;have e:(20:Int)≤200:=by omega
  simp only[BU h,e,CC];by_cases q:a>20
  ·rw[Cl q,Cs,BU (show 20<a from q)];try rfl
  ·rw[Cj q,CI,BU (show a≤200 by omega),Ca (show ¬ 20<a from q)];try rfl)
noncomputable def uU (a:List Int):Option (Bool):=some (decide ((a.length:Int)>(1048576:Int)))
theorem yS (a:List Int):Ans (uU a) (fun r=>Does E 5 [.one (BO 1 (a.map etY))] [BG r]):=by unfold uU;exact Bt (DP Try.f5 [BL (a.length:Int)] (ALn a etY<|AN))
def ro (x:List Int):Bool:=decide ((x.length:Int)>(1048576:Int))
theorem fQ (a:List Int):Does E 5 [.one (BO 1 (a.map etY))] [BG (ro a)]:=by exact yS a _ rfl
noncomputable def m8 (a:GCron)(b:Int):Option (Bool):=if av.sm a then cond (aS a) (cond (a8 b 0 68374079) (if a.f0.length≤1050000 then cond (aD a.f0 (Int.tmod b 60)) (if a.f1.length≤1050000 then cond (aD a.f1 (IntKind.wrap .i64 (Int.tdiv (Int.tmod b 1440) 60))) (some (fw a b)) (some (false))else none) (some (false))else none) (some (false))) (some (false))else none
theorem xm (a:GCron)(b:Int):Ans (m8 a b) (fun r=>Does E 12 [.agg (BD .far a),BI b] [BG r]):=by
 unfold m8;apply By;intro c;apply Bw<;>intro d
 ·apply Bw<;>intro e
  ·apply By;intro f;apply Bw<;>intro g
   ·apply By;intro h;apply Bw<;>intro i
    ·exact Bt (DP Try.f12 [rT,rT,rT,rT,.ret [BG (fw a b)]] (AD (BB (b9 a c) d)<|AD (BB (a5 b 0 68374079) e)<|AD (BB (aJ a.f0 (Int.tmod b 60) f) g)<|AD (BB (aJ a.f1 (IntKind.wrap .i64 (Int.tdiv (Int.tmod b 1440) 60)) h) i)<|AD (jr a b c)<|AN))
    ·exact Bt (DP Try.f12 [rT,rT,rT,rF] (AD (BB (b9 a c) d)<|AD (BB (a5 b 0 68374079) e)<|AD (BB (aJ a.f0 (Int.tmod b 60) f) g)<|AD (BB (aJ a.f1 (IntKind.wrap .i64 (Int.tdiv (Int.tmod b 1440) 60)) h) i)<|AN))
   ·exact Bt (DP Try.f12 [rT,rT,rF] (AD (BB (b9 a c) d)<|AD (BB (a5 b 0 68374079) e)<|AD (BB (aJ a.f0 (Int.tmod b 60) f) g)<|AN))
  ·exact Bt (DP Try.f12 [rT,rF] (AD (BB (b9 a c) d)<|AD (BB (a5 b 0 68374079) e)<|AN))
 ·exact Bt (DP Try.f12 [rF] (AD (BB (b9 a c) d)<|AN))
noncomputable def c8 (c:GCron)(m:Int):Bool:=aS c&&(a8 m 0 68374079&&(aD c.f0 (Int.tmod m 60)&&(aD c.f1 (Int.tdiv (Int.tmod m 1440) 60)&&fw c m)))
theorem lJ {l:List Int}{x:Int}:aD l x=true↔x∈l:=by
 unfold aD;rw[C6];constructor
 ·rintro⟨y,a,e⟩;rw[Ee]at e;subst e;exact a
 ·exact fun h=>⟨x,h,Ei x⟩
theorem oS {c:GCron}(hc:aS c=true){f:Int}(e:(an c f 400).2=true):c8 c (an c f 400).1=true:=by
 obtain⟨k,l⟩:=jt hc;unfold an at e ⊢;split at e
 case isFalse=>cases e
 rename_i d;rw[BU d];split at e
 case h_2=>cases e
 rename_i m n;obtain⟨g,u,v,o,h,i,x,j,w,y⟩:=jv _ _ n;have z:=k x j;have A:=l h i;have B:=(bz.1 d).1;have hd:0≤g:=by omega
 have a:0≤m:=by omega
 have b:m≤68374079:=by omega
 have p:Int.tmod m 60=x:=by rw[CY a];omega
 have q:Int.tmod m 1440=h*60+x:=by rw[CY a];omega
 have r:Int.tdiv (h*60+x) 60=h:=by rw[Cr (by omega)];omega
 have s:m/1440*1440=g*1440:=by omega
 have t:fw c m=true:=by rw[←o, ←s, ←rL c m a b];rfl
 show c8 c m=true;unfold c8;rw[hc,bz.2 ⟨a,b⟩,p,q,r,lJ.2 j,lJ.2 i,t];rfl
theorem vD {c:GCron}{m:Int}(h:c8 c m=true):aS c=true:=by unfold c8 at h;rw[Cf]at h;exact h.1
theorem dp (c:GCron)(b:Int)(h:av.sm c):Does E 12 [.agg (BD .far c),BI b] [BG (c8 c b)]:=by
 exact xm c b _ (by
  obtain⟨d,f,g,i,j⟩:=h;have k:=d.1;have l:=f.1;have m:IntKind.wrap .i64 (Int.tdiv (Int.tmod b 1440) 60)=Int.tdiv (Int.tmod b 1440) 60:=by
   by_cases q:0≤b
   ·have:=ll (n:=1440) q (by omega);have o:Int.tdiv (Int.tmod b 1440) 60≤Int.tmod b 1440∧0≤Int.tdiv (Int.tmod b 1440) 60:=by rw[Cr this.1];omega
    exact ay _ (by omega) (by omega)
   ·have e:Int.tmod b 1440 = - Int.tmod (-b) 1440:=by rw[Int.neg_tmod,Int.neg_neg]
    have:=ll (a := -b) (n:=1440) (by omega) (by omega);rw[e,Int.neg_tdiv];have o:Int.tdiv (Int.tmod (-b) 1440) 60≤Int.tmod (-b) 1440∧0≤Int.tdiv (Int.tmod (-b) 1440) 60:=by rw[Cr this.1];omega
    exact ay _ (by omega) (by omega)
  unfold m8 c8;simp only[BU (show av.sm c from⟨d,f,g,i,j⟩),BU k,BU l,m];cases aS c<;>cases a8 b 0 68374079<;>cases aD c.f0 (Int.tmod b 60)<;>cases aD c.f1 (Int.tdiv (Int.tmod b 1440) 60)<;>rfl)
def rx (c:GCron)(m a:Int)(l:List GSpan):Prop :=
 (∀(i:Nat)(s:GSpan),l[i]?=some s→c8 c s.f0=true∧(an c (inc s.f0) 400).2=true∧(an c (inc s.f0) 400).1=s.f1∧s.f1≤a∧m≤s.f0∧∀p,0<i→l[i-1]?=some p→p.f1=s.f0)∧(l.map (·.f0)).Pairwise (· < ·)
theorem nT {c:GCron}(hc:aS c=true)(m e f:Int):∀(n:Nat)(d:List GSpan)(a:Int)(ok:Bool),rx c m e d →
  (ok=true→c8 c a=true∧m≤a∧a≤68374079∧0≤a∧(∀p,d.getLast?=some p→p.f1=a)∧∀s∈d,s.f0<a)→rx c m e (cq c e f n d a ok)
 | 0,d,a,ok,h,_=>h
 |n+1,d,a,ok,h,t=>by
  unfold cq;split
  ·rename_i u;split
   ·rename_i k;obtain⟨v,w,I,J,z,o⟩:=t u.1;have hi:inc a=a+1:=fJ a (by omega) (by omega);have hs:=gy hc k.1;rw[hi]at hs;refine nT hc m e f n _ _ _ ⟨fun i s b=>?_,?_⟩ (fun _=>⟨oS hc k.1,by rw[hi];omega,by rw[hi];exact hs.2.1,by rw[hi];omega,fun p j=>?_,fun s g=>?_⟩)
    ·rcases DB i d.length with q|q|q
     ·rw[Cn q]at b;obtain⟨A,B,C,D,F,G⟩:=h.1 i s b;refine⟨A,B,C,D,F,fun p j l=>G p j ?_⟩
      rwa [Cn (by omega)]at l
     ·subst q;rw[Cq (Ct _),Nat.sub_self]at b;cases b;refine⟨v,k.1,rfl,Int.not_lt.1 k.2,w,fun p j l=>?_⟩;rw[Cn (by omega)]at l;refine z p ?_;rw[List.getLast?_eq_getElem?];exact l
     ·rw[Cq (by omega)]at b;have:i-d.length=(i-d.length-1)+1:=by omega
      rw[this]at b;simp at b
    ·rw[Dg,List.pairwise_append];refine⟨h.2,by simp,fun x H y r=>?_⟩;obtain⟨s,g,rfl⟩:=B8.1 H;simp only[Cc,CL,B1]at r;subst r;exact o s g
    ·rw[List.getLast?_append]at j;simp at j;subst j;rfl
    ·rcases Ch.1 g with q|q
     ·have:=o s q;rw[hi];omega
     ·rw[B1]at q;subst q;show a<_;rw[hi];omega
   ·exact h
  ·exact h
theorem qF (c:GCron)(e b:Int):∀(n:Nat)(d:List GSpan)(a:Int)(ok:Bool),(d.length:Int)≤b→((cq c e b n d a ok).length:Int)≤b
 | 0,d,a,ok,h=>h
 |n+1,d,a,ok,h=>by
  unfold cq;split
  ·split
   ·rename_i f _;exact qF c e b n _ _ _ (by rw[C2,CF];omega)
   ·exact h
  ·exact h
theorem pk (c:GCron)(d e:Int):∀(n:Nat)(b:List GSpan)(a:Int)(ok:Bool),∃t,cq c d e n b a ok=b++t
 | 0,b,a,ok=>⟨[],(Cg _).symm⟩
 |n+1,b,a,ok=>by
  unfold cq;split
  ·split
   ·obtain⟨t,f⟩:=pk c d e n (b++[⟨a,(an c (inc a) 400).1⟩]) (an c (inc a) 400).1 true;exact⟨_::t,by rw[f,Eb];rfl⟩
   ·exact⟨[],(Cg _).symm⟩
  ·exact⟨[],(Cg _).symm⟩
theorem pm (c:GCron)(d f g:Int)(h:f≤g):∀(n:Nat)(b:List GSpan)(a:Int)(ok:Bool),∃t,cq c d g n b a ok=cq c d f n b a ok++t
 | 0,b,a,ok=>⟨[],(Cg _).symm⟩
 |n+1,b,a,ok=>by
  by_cases q:ok=true∧(b.length:Int)<f
  ·have i:ok=true∧(b.length:Int)<g:=⟨q.1,by omega⟩
   unfold cq;rw[BU q,BU i];split
   ·exact pm c d f g h n _ _ _
   ·exact⟨[],(Cg _).symm⟩
  ·have e:cq c d f (n+1) b a ok=b:=by unfold cq;rw[Ca q]
   rw[e];exact pk c d g (n+1) b a ok
theorem wg (c:GCron)(m a k:Int):rx c m a (ae c m a k):=by
 have d:rx c m a []:=⟨fun i s h=>by simp at h,by simp⟩
 unfold ae;split
 ·rename_i hc;unfold jK;refine nT hc m a _ 201 [] _ _ d fun b=>?_
  have hs:=gy hc b;exact⟨oS hc b,hs.1,hs.2.1,by omega,fun p e=>(by cases e),fun s hs=>(by cases hs)⟩
 ·exact d
theorem tr (c:GCron)(m a k:Int)(b:0≤k)(h:k≤20):((ae c m a k).length:Int)≤k:=by
 have e:cr k 20=k:=by unfold cr;split<;>omega
 unfold ae;split
 ·rw[e];exact qF c a k 201 [] _ _ (by simpa using b)
 ·simpa using b
theorem xv (c:GCron)(m a d b:Int)(e:d≤b)(h:b≤20):∃t,ae c m a b=ae c m a d++t:=by
 have f:cr d 20=d:=by unfold cr;split<;>omega
 have g:cr b 20=b:=by unfold cr;split<;>omega
 unfold ae;split
 ·rw[f,g];exact pm c a d b e 201 [] _ _
 ·exact⟨[],rfl⟩
inductive uV where|ret (v4:Bool)|x0
def jH (a:List Int)(b v5:Int):US:=stL 18 [(0,.one (BO 1 (a.map etI))),(1,BI b),(5,BI v5)]
def lK (a:Bool):US:=stL 18 [(4,BJ a)]
def mP  : US:=stL 18 []
abbrev pU:US→Exit→US→Prop:=Round E 14 (aI Try.f14 0)
def yU (b:List Int)(c v5:Int):uV→Prop| .ret a=>Loops E 14 (aI Try.f14 0) (jH b c v5) .ret (lK a)| .x0=>Loops E 14 (aI Try.f14 0) (jH b c v5) (.exit 0) (mP)
noncomputable def iM (a:Int):List Int→Nat→Option uV|[],i=>some (.x0)|hd::rest,i=>cond (hd==a) (some (.ret true)) (iM a rest (i+1))
theorem yT (a:List Int)(b:Int)(rest:List Int):∀(i:Nat) ,(a).drop i=rest→a.length≤9223372036854775807→Ans (iM b rest i) (yU a b (i:Int)):=by
 induction rest with
 |nil =>intro i c d;have hb:=c9 c;unfold iM;exact Bt (Bv (show pU (jH a b (i:Int)) (.exit 0) (mP)from RP [BL (a.length:Int),.b false] (ALn a etI<|AC hb<|AN)))
 |cons hd rest h =>
  intro i c d;have hb:=cy c;have j:=cz c d;have e:=bu c;have f:=cI c;unfold iM;apply Bw<;>intro g
  ·exact Bt (Bv (show pU (jH a b (i:Int)) .ret (lK true)from RP [BL (a.length:Int),.b true,.row (etI hd),.b true] (ALn a etI<|AC hb<|AR etI f<|AC g<|AN)))
  ·exact(h (i+1) e d).mono fun y k=>by have r:pU (jH a b (i:Int)) .normal (jH a b (inc (i:Int))):=RP [BL (a.length:Int),.b true,.row (etI hd),.b false] (ALn a etI<|AC hb<|AR etI f<|AC g<|AN);rw[j]at r;cases y<;>exact Bu r k
noncomputable def sI (b:List Int)(c:Int):Option (Bool):=
  if b.length≤9223372036854775807 then(iM c b 0).bind fun y=>match y with
   | .ret a=>(some (a))
   | .x0=>(some (false))else none
theorem zi (x0:List Int)(c:Int):Ans (sI x0 c) (fun r=>Does E 14 [.one (BO 1 (x0.map etI)),BI c] [BG r]):=by
 unfold sI;apply By;intro d;apply Bx;intro y b;replace b:=yT x0 c x0 0 rfl d y b;cases y with
 |ret a =>have e:=b;exact Bt (DP Try.f14 [.lp .ret (lK a)] (AL e<|AN))
 |x0 =>have e:=b;exact Bt (DP Try.f14 [.lp (.exit 0) (mP)] (AL e<|AN))
theorem yu (x:Int):∀(rest:List Int)(i:Nat),iM x rest i=some (if aD rest x=true then .ret true else .x0)
 |[],i=>rfl
 |y::rest,i=>by
  have a:=yu x rest (i+1);unfold iM;have e:aD (y::rest) x=(y==x ||aD rest x):=rfl;rw[e];cases y==x with
  |true=>rfl
  |false=>rw[CI,a];rfl
theorem wo (a:List Int)(b:Int)(h:a.length≤1050000):Does E 14 [.one (BO 1 (a.map etI)),BI b] [BG (aD a b)]:=by exact zi a b _ (by unfold sI;rw[BU (by omega),yu];cases aD a b<;>rfl)
inductive mG where|x0 (v5:List GSpan)
def ep (a:List Int)(v5 v8:List GSpan)(v9 v10:Int):US:=stL 25 [(1,.one (BO 1 (a.map etI))),(5,.one (BN 2 (v5.map BE))),(8,.one (BO 2 (v8.map BE))),(9,BI v9),(10,BI v10)]
def iJ (a:List GSpan):US:=stL 25 [(5,.one (BN 2 (a.map BE)))]
abbrev jU:US→Exit→US→Prop:=Round E 13 (aI Try.f13 0)
def so (b:List Int)(v5 v8:List GSpan)(v9 v10:Int):mG→Prop| .x0 a=>Loops E 13 (aI Try.f13 0) (ep b v5 v8 v9 v10) (.exit 0) (iJ a)
noncomputable def cB (a:List Int):List GSpan→Nat→(List GSpan)→Option mG|[],i,v5=>some (.x0 v5)|hd::rest,i,v5=>if a.length≤1050000 then cond (aD a hd.f0) (cB a rest (i+1) v5) (if(v5.length+([hd]).length)*16≤140737488355328∧v5.length+([hd]).length≤4611686018427387904 then cB a rest (i+1) (v5++([hd]))else none)else none
theorem sn (a:List Int)(v8:List GSpan)(rest:List GSpan):∀(i:Nat)(v5:List GSpan),(v8).drop i=rest→v8.length≤9223372036854775807→Ans (cB a rest i v5) (so a v5 v8 (v8.length:Int) (i:Int)):=by
 induction rest with
 |nil =>intro i v5 b d;have hb:=c9 b;unfold cB;exact Bt (Bv (show jU (ep a v5 v8 (v8.length:Int) (i:Int)) (.exit 0) (iJ v5)from RP [.b false] (AC hb<|AN)))
 |cons hd rest f =>
  intro i v5 b d;have hb:=cy b;have g:=cz b d;have c:=bu b;have h:=cI b;unfold cB;apply By;intro j;apply Bw<;>intro k
  ·exact(f (i+1) v5 c d).mono fun y e=>by have r:jU (ep a v5 v8 (v8.length:Int) (i:Int)) .normal (ep a v5 v8 (v8.length:Int) (inc (i:Int))):=RP [.b true,.row (BE hd),rT] (AC hb<|AR BE h<|AD (BB (ap a hd.f0 j) k)<|AN);rw[g]at r;cases y<;>exact Bu r e
  ·apply By;intro l;exact(f (i+1) (v5++([hd])) c d).mono fun y e=>by have r:jU (ep a v5 v8 (v8.length:Int) (i:Int)) .normal (ep a (v5++([hd])) v8 (v8.length:Int) (inc (i:Int))):=RP [.b true,.row (BE hd),rF,.rows ((v5++([hd])).map BE)] (AC hb<|AR BE h<|AD (BB (ap a hd.f0 j) k)<|AAp BE (fun _=>rfl) l<|AN);rw[g]at r;cases y<;>exact Bu r e
noncomputable def kD (b:List GSpan)(c:List Int):Option ((List GSpan)):=
  if b.length≤9223372036854775807 then(cB c b 0 ([])).bind fun y=>match y with
   | .x0 a=>(some (a))else none
theorem t9 (x0:List GSpan)(b:List Int):Ans (kD x0 b) (fun r=>Does E 13 [.one (BO 2 (x0.map BE)),.one (BO 1 (b.map etI))] [(false,[BN 2 (r.map BE)])]):=by
 unfold kD;apply By;intro c;apply Bx;intro y d;replace d:=sn b x0 x0 0 ([]) rfl c y d;cases y with
 |x0 a =>have e:=d;exact Bt (DP Try.f13 [BL (x0.length:Int),.lp (.exit 0) (iJ a)] (ALn x0 BE<|AL e<|AN))
def au (l:List GSpan)(h:List Int):List GSpan:=l.filter fun s => !aD h s.f0
theorem sJ (h:List Int)(hh:h.length≤1050000):∀(rest:List GSpan)(i:Nat)(v:List GSpan),v.length+rest.length≤1050000→cB h rest i v=some (.x0 (v++au rest h))
 |[],i,v,_=>by unfold cB au;rw[List.filter_nil,Cg]
 |x::rest,i,v,a=>by
  rw[CX]at a;unfold cB;rw[BU hh];have e:au (x::rest) h=(if(!aD h x.f0)=true then x::au rest h else au rest h):=by unfold au;rw[Dd]
  rw[e];cases aD h x.f0 with
  |true=>rw[Cs,sJ h hh rest (i+1) v (by omega)];rfl
  |false =>rw[CI,BU (by rw[CF];omega),sJ h hh rest (i+1) (v++[x]) (by rw[C2,CF];omega)];simp
theorem uh (l:List GSpan)(h:List Int):(au l h).length≤l.length:=List.length_filter_le _ _
theorem e9 (a:List GSpan)(b:List Int)(h:a.length≤1050000)(g:b.length≤1050000):Does E 13 [.one (BO 2 (a.map BE)),.one (BO 1 (b.map etI))] [(false,[BN 2 ((au a b).map BE)])]:=by exact t9 a b _ (by unfold kD;rw[BU (by omega),sJ b g a 0 [] (by simpa using h)];rfl)
inductive ld where|ret (v4:Bool)|x0
def dt (a b:List GSpan)(v5:Int):US:=stL 26 [(0,.one (BO 2 (a.map BE))),(1,.one (BO 2 (b.map BE))),(5,BI v5)]
def gd (a:Bool):US:=stL 26 [(4,BJ a)]
def gI  : US:=stL 26 []
abbrev iN:US→Exit→US→Prop:=Round E 9 (aI Try.f9 0)
def pW (b c:List GSpan)(v5:Int):ld→Prop| .ret a=>Loops E 9 (aI Try.f9 0) (dt b c v5) .ret (gd a)| .x0=>Loops E 9 (aI Try.f9 0) (dt b c v5) (.exit 0) (gI)
noncomputable def cR (a:List GSpan):List GSpan→Nat→Option ld|[],i=>some (.x0)|hd::rest,i=>(bd a (i:Int)).bind fun b=>cond (!((hd.f0==b.f0)&&((hd.f1==b.f1)&&true))) (some (.ret false)) (cR a rest (i+1))
theorem pV (a b:List GSpan)(rest:List GSpan):∀(i:Nat) ,(a).drop i=rest→a.length≤9223372036854775807→Ans (cR b rest i) (pW a b (i:Int)):=by
 induction rest with
 |nil =>intro i c d;have hb:=c9 c;unfold cR;exact Bt (Bv (show iN (dt a b (i:Int)) (.exit 0) (gI)from RP [BL (a.length:Int),.b false] (ALn a BE<|AC hb<|AN)))
 |cons hd rest k =>
  intro i c d;have hb:=cy c;have l:=cz c d;have e:=bu c;have f:=cI c;unfold cR;apply Bx;intro g h;apply Bw<;>intro j
  ·exact Bt (Bv (show iN (dt a b (i:Int)) .ret (gd false)from RP [BL (a.length:Int),.b true,.row (BE hd),.row (BE g),.b true] (ALn a BE<|AC hb<|AR BE f<|AR BE h<|AC j<|AN)))
  ·exact(k (i+1) e d).mono fun y m=>by have r:iN (dt a b (i:Int)) .normal (dt a b (inc (i:Int))):=RP [BL (a.length:Int),.b true,.row (BE hd),.row (BE g),.b false] (ALn a BE<|AC hb<|AR BE f<|AR BE h<|AC j<|AN);rw[l]at r;cases y<;>exact Bu r m
noncomputable def jm (b c:List GSpan):Option (Bool):=
  cond ((b.length:Int) != (c.length:Int))
   (some (false))
   (if b.length≤9223372036854775807 then(cR c b 0).bind fun y=>match y with
    | .ret a=>(some (a))
    | .x0=>(some (true))else none)
theorem qW (x0 a:List GSpan):Ans (jm x0 a) (fun r=>Does E 9 [.one (BO 2 (x0.map BE)),.one (BO 2 (a.map BE))] [BG r]):=by
 unfold jm;apply Bw<;>intro d
 ·exact Bt (DP Try.f9 [BL (x0.length:Int),BL (a.length:Int),.b true] (ALn x0 BE<|ALn a BE<|AC d<|AN))
 ·apply By;intro e;apply Bx;intro y c;replace c:=pV x0 a x0 0 rfl e y c;cases y with
  |ret b =>have f:=c;exact Bt (DP Try.f9 [BL (x0.length:Int),BL (a.length:Int),.b false,.lp .ret (gd b)] (ALn x0 BE<|ALn a BE<|AC d<|AL f<|AN))
  |x0 =>have f:=c;exact Bt (DP Try.f9 [BL (x0.length:Int),BL (a.length:Int),.b false,.lp (.exit 0) (gI)] (ALn x0 BE<|ALn a BE<|AC d<|AL f<|AN))
def pj (_ _:List GSpan):Bool:=true
theorem xr (a:List GSpan):∀(rest:List GSpan)(i:Nat),a.drop i=rest→cR a rest i=some .x0
 |[],i,_=>rfl
 |x::rest,i,h=>by unfold cR;rw[cI h,BT];simp only[Ei,Bool.and_self,Bool.not_true,CI];exact xr a rest (i+1) (bu h)
theorem bP (a:List GSpan)(b:List GSpan)(e:a=b)(h:a.length≤1050000):Does E 9 [.one (BO 2 (a.map BE)),.one (BO 2 (b.map BE))] [BG (pj a b)]:=by subst e;exact qW a a _ (by unfold jm;rw[Ed,CI,BU (by omega),xr a a 0 rfl];rfl)
end
end Go.Proofs.Ytlhgcolciklecaa.Am
