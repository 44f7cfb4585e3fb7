/- Spans, and what is told of them. -/
import Derived.Test.YtlhgcolciklecaaRules
namespace Go.Proofs.Ytlhgcolciklecaa.Am
open Go
set_option linter.unusedVariables false
set_option linter.unusedSimpArgs false
section
open Go.Proofs Classical
set_option maxRecDepth 100000
inductive nM where|x0 (v9:List GSpan)
def dN (v2 v3:Int)(a b c d e:List Int)(v9:List GSpan)(v10:Int)(f:Bool):US:=stL 49 [(2,D7 v2),(3,D7 v3),(4,.box () [Ed 1 (a.map etI),Ed 1 (b.map etI),Ed 1 (c.map etI),Ed 1 (d.map etI),Ed 1 (e.map etI)]),(9,.one (Ec 2 (v9.map DY))),(10,D7 v10),(11,D8 f)]
def dE (a:List GSpan):US:=stL 49 [(9,.one (Ec 2 (a.map DY)))]
abbrev gj:US→Exit→US→Prop:=Round E 23 (aI Try.f23 0)
def tH (v2 v3:Int)(a b c d e:List Int)(v9:List GSpan)(v10:Int)(f:Bool):nM→Prop| .x0 g=>Loops E 23 (aI Try.f23 0) (dN v2 v3 a b c d e v9 v10 f) (.exit 0) (dE g)
noncomputable def dO (v2 v3:Int)(a b c d e:List Int):Nat→(List GSpan)→Int→Bool→Option nM
 | 0,_,_,_=>none
 |n+1,v9,v10,f=>match f with
  |true=>cond (decide ((v9.length:Int)<v3))
   (if aA.sm (GCron.mk a b c d e)then if bg (GCron.mk a b c d e)=true then if(400:Int)=400 then cond ((ar (GCron.mk a b c d e) (inc v10) 400).2)
    (cond (decide (((ar (GCron.mk a b c d e) (inc v10) 400).1)>v2))
     (some (.x0 v9))
     (if(v9.length+([(GSpan.mk v10 ((ar (GCron.mk a b c d e) (inc v10) 400).1))]).length)*16≤140737488355328∧v9.length+([(GSpan.mk v10 ((ar (GCron.mk a b c d e) (inc v10) 400).1))]).length≤4611686018427387904 then dO v2 v3 a b c d e n (v9++([(GSpan.mk v10 ((ar (GCron.mk a b c d e) (inc v10) 400).1))])) ((ar (GCron.mk a b c d e) (inc v10) 400).1) true else none))
    (some (.x0 v9))else none else none else none)
   (some (.x0 v9))
  |false=>some (.x0 v9)
theorem tG (v2 v3:Int)(a b c d e:List Int)(n:Nat):∀(v9:List GSpan)(v10:Int)(f:Bool),Ans (dO v2 v3 a b c d e n v9 v10 f) (tH v2 v3 a b c d e v9 v10 f):=by
 induction n with
 |zero=>intros;exact Ans.none
 |succ n m =>
  intro v9 v10 f;unfold dO;cases f with
  |true =>
   apply DO<;>intro g
   ·apply DR;intro h;apply DR;intro i;apply DR;intro j;apply DO<;>intro k
    ·apply DO<;>intro l
     ·exact DL (DN (show gj (dN v2 v3 a b c d e v9 v10 true) (.exit 0) (dE v9)from RP [Ea (v9.length:Int),.b true,.ret [DZ ((ar (GCron.mk a b c d e) (inc v10) 400).1),D5 true],.b true] (ALn v9 DY<|AC g<|AD (ji (GCron.mk a b c d e) (inc v10) 400 h i j k)<|AC l<|AN)))
     ·apply DR;intro o;have r:gj (dN v2 v3 a b c d e v9 v10 true) .normal (dN v2 v3 a b c d e (v9++([(GSpan.mk v10 ((ar (GCron.mk a b c d e) (inc v10) 400).1))])) ((ar (GCron.mk a b c d e) (inc v10) 400).1) true):=RP [Ea (v9.length:Int),.b true,.ret [DZ ((ar (GCron.mk a b c d e) (inc v10) 400).1),D5 true],.b false,.rows ((v9++([(GSpan.mk v10 ((ar (GCron.mk a b c d e) (inc v10) 400).1))])).map DY)] (ALn v9 DY<|AC g<|AD (ji (GCron.mk a b c d e) (inc v10) 400 h i j k)<|AC l<|AAp DY (fun _=>rfl) o<|AN);exact(m (v9++([(GSpan.mk v10 ((ar (GCron.mk a b c d e) (inc v10) 400).1))])) ((ar (GCron.mk a b c d e) (inc v10) 400).1) true).mono fun y p=>by cases y<;>exact DM r p
    ·exact DL (DN (show gj (dN v2 v3 a b c d e v9 v10 true) (.exit 0) (dE v9)from RP [Ea (v9.length:Int),.b true,.ret [DZ ((ar (GCron.mk a b c d e) (inc v10) 400).1),D5 false]] (ALn v9 DY<|AC g<|AD (ji (GCron.mk a b c d e) (inc v10) 400 h i j k)<|AN)))
   ·exact DL (DN (show gj (dN v2 v3 a b c d e v9 v10 true) (.exit 0) (dE v9)from RP [Ea (v9.length:Int),.b false] (ALn v9 DY<|AC g<|AN)))
  |false =>exact DL (DN (show gj (dN v2 v3 a b c d e v9 v10 false) (.exit 0) (dE v9)from RP [] AN))
noncomputable def lA (a:GCron)(c d e:Int):Option ((List GSpan)):=
  if aA.sm a then if bg a=true then if(400:Int)=400 then(dO d e a.f0 a.f1 a.f2 a.f3 a.f4 9223372036854775808 ([]) ((ar a c 400).1) ((ar a c 400).2)).bind fun y=>match y with
   | .x0 b=>(some (b))else none else none else none
theorem vj (x0:GCron)(a c d:Int):Ans (lA x0 a c d) (fun r=>Does E 23 [.agg (DX .far x0),D7 a,D7 c,D7 d] [(false,[Ec 2 (r.map DY)])]):=by
 unfold lA;apply DR;intro f;apply DR;intro g;apply DR;intro h;apply DQ;intro y e;replace e:=tG c d x0.f0 x0.f1 x0.f2 x0.f3 x0.f4 9223372036854775808 ([]) ((ar x0 a 400).1) ((ar x0 a 400).2) y e;cases y with
 |x0 b =>have i:=e;exact DL (DP Try.f23 [.ret [DZ ((ar x0 a 400).1),D5 ((ar x0 a 400).2)],.lp (.exit 0) (dE b)] (AD (nh x0 a 400 f g h)<|AL i<|AN))
inductive na where|ret (v10:List GSpan)|x0 (v4:List GSpan)
def cA (v2 v3:Int)(v4:List GSpan)(a b c d e:List Int)(f:Int)(g:Bool):US:=stL 55 [(2,D7 v2),(3,D7 v3),(4,.one (Ec 2 (v4.map DY))),(5,.box () [Ed 1 (a.map etI),Ed 1 (b.map etI),Ed 1 (c.map etI),Ed 1 (d.map etI),Ed 1 (e.map etI)]),(11,D7 f),(12,D8 g)]
def fx (a:List GSpan):US:=stL 55 [(10,.one (Ec 2 (a.map DY)))]
def et (a:List GSpan):US:=stL 55 [(4,.one (Ec 2 (a.map DY)))]
abbrev eb:US→Exit→US→Prop:=Round E 24 (aI Try.f24 0)
def sk (v2 v3:Int)(v4:List GSpan)(a b c d e:List Int)(f:Int)(g:Bool):na→Prop| .ret h=>Loops E 24 (aI Try.f24 0) (cA v2 v3 v4 a b c d e f g) .ret (fx h)| .x0 i=>Loops E 24 (aI Try.f24 0) (cA v2 v3 v4 a b c d e f g) (.exit 0) (et i)
noncomputable def cB (v2 v3:Int)(a b c d e:List Int):Nat→(List GSpan)→Int→Bool→Option na
 | 0,_,_,_=>none
 |n+1,v4,f,g=>match g with
  |true=>cond (decide ((v4.length:Int)<v3))
   (cond (decide (f<(68374079:Int)))
    (if aA.sm (GCron.mk a b c d e)then if(400:Int)=400 then cond ((aG (GCron.mk a b c d e) (inc f) 400).2)
     (cond (decide (((aG (GCron.mk a b c d e) (inc f) 400).1)>v2))
      (some (.ret v4))
      (if(v4.length+([(GSpan.mk f ((aG (GCron.mk a b c d e) (inc f) 400).1))]).length)*16≤140737488355328∧v4.length+([(GSpan.mk f ((aG (GCron.mk a b c d e) (inc f) 400).1))]).length≤4611686018427387904 then cB v2 v3 a b c d e n (v4++([(GSpan.mk f ((aG (GCron.mk a b c d e) (inc f) 400).1))])) ((aG (GCron.mk a b c d e) (inc f) 400).1) true else none))
     (some (.ret v4))else none else none)
    (some (.x0 v4)))
   (some (.x0 v4))
  |false=>some (.x0 v4)
theorem sj (v2 v3:Int)(a b c d e:List Int)(n:Nat):∀(v4:List GSpan)(f:Int)(g:Bool),Ans (cB v2 v3 a b c d e n v4 f g) (sk v2 v3 v4 a b c d e f g):=by
 induction n with
 |zero=>intros;exact Ans.none
 |succ n o =>
  intro v4 f g;unfold cB;cases g with
  |true =>
   apply DO<;>intro h
   ·apply DO<;>intro i
    ·apply DR;intro j;apply DR;intro k;apply DO<;>intro l
     ·apply DO<;>intro m
      ·exact DL (DN (show eb (cA v2 v3 v4 a b c d e f true) .ret (fx v4)from RP [Ea (v4.length:Int),.b true,.b true,.ret [DZ ((aG (GCron.mk a b c d e) (inc f) 400).1),D5 true],.b true] (ALn v4 DY<|AC h<|AC i<|AD (jj (GCron.mk a b c d e) (inc f) 400 j k l)<|AC m<|AN)))
      ·apply DR;intro p;have r:eb (cA v2 v3 v4 a b c d e f true) .normal (cA v2 v3 (v4++([(GSpan.mk f ((aG (GCron.mk a b c d e) (inc f) 400).1))])) a b c d e ((aG (GCron.mk a b c d e) (inc f) 400).1) true):=RP [Ea (v4.length:Int),.b true,.b true,.ret [DZ ((aG (GCron.mk a b c d e) (inc f) 400).1),D5 true],.b false,.rows ((v4++([(GSpan.mk f ((aG (GCron.mk a b c d e) (inc f) 400).1))])).map DY)] (ALn v4 DY<|AC h<|AC i<|AD (jj (GCron.mk a b c d e) (inc f) 400 j k l)<|AC m<|AAp DY (fun _=>rfl) p<|AN);exact(o (v4++([(GSpan.mk f ((aG (GCron.mk a b c d e) (inc f) 400).1))])) ((aG (GCron.mk a b c d e) (inc f) 400).1) true).mono fun y q=>by cases y<;>exact DM r q
     ·exact DL (DN (show eb (cA v2 v3 v4 a b c d e f true) .ret (fx v4)from RP [Ea (v4.length:Int),.b true,.b true,.ret [DZ ((aG (GCron.mk a b c d e) (inc f) 400).1),D5 false]] (ALn v4 DY<|AC h<|AC i<|AD (jj (GCron.mk a b c d e) (inc f) 400 j k l)<|AN)))
    ·exact DL (DN (show eb (cA v2 v3 v4 a b c d e f true) (.exit 0) (et v4)from RP [Ea (v4.length:Int),.b true,.b false] (ALn v4 DY<|AC h<|AC i<|AN)))
   ·exact DL (DN (show eb (cA v2 v3 v4 a b c d e f true) (.exit 0) (et v4)from RP [Ea (v4.length:Int),.b false] (ALn v4 DY<|AC h<|AN)))
  |false =>exact DL (DN (show eb (cA v2 v3 v4 a b c d e f false) (.exit 0) (et v4)from RP [] AN))
noncomputable def jf (a:GCron)(d e f:Int)(g:List GSpan):Option ((List GSpan)):=
  if aA.sm a then if(400:Int)=400 then(cB e f a.f0 a.f1 a.f2 a.f3 a.f4 9223372036854775808 g ((aG a d 400).1) ((aG a d 400).2)).bind fun y=>match y with
   | .ret b=>(some (b))
   | .x0 c=>(some (c))else none else none
theorem uw (x0:GCron)(a e f:Int)(g:List GSpan):Ans (jf x0 a e f g) (fun r=>Does E 24 [.agg (DX .far x0),D7 a,D7 e,D7 f,.one (Ec 2 (g.map DY))] [(false,[.any]),(false,[Ec 2 (r.map DY)])]):=by
 unfold jf;apply DR;intro i;apply DR;intro j;apply DQ;intro y d;replace d:=sj e f x0.f0 x0.f1 x0.f2 x0.f3 x0.f4 9223372036854775808 g ((aG x0 a 400).1) ((aG x0 a 400).2) y d;cases y with
 |ret b =>have h:=d;exact DL (DP Try.f24 [.ret [DZ ((aG x0 a 400).1),D5 ((aG x0 a 400).2)],.lp .ret (fx b)] (AD (kA x0 a 400 i j)<|AL h<|AN))
 |x0 c =>have h:=d;exact DL (DP Try.f24 [.ret [DZ ((aG x0 a 400).1),D5 ((aG x0 a 400).2)],.lp (.exit 0) (et c)] (AD (kA x0 a 400 i j)<|AL h<|AN))
noncomputable def bT (c:GCron)(b d:Int):Nat→List GSpan→Int→Bool→List GSpan| 0,a,_,_=>a|n+1,a,at_,ok =>if ok=true∧(a.length:Int)<d then if(ar c (inc at_) 400).2=true∧¬(ar c (inc at_) 400).1>b then bT c b d n (a++[⟨at_,(ar c (inc at_) 400).1⟩]) (ar c (inc at_) 400).1 true else a else a
noncomputable def cp (c:GCron)(a b d:Int):List GSpan:=bT c b d 201 [] (ar c a 400).1 (ar c a 400).2
noncomputable def aJ (c:GCron)(a b d:Int)(e:List GSpan):List GSpan:=if bg c=true then cp c a b d else []
theorem u3 {d f h m:Int}:∀{mins:List Int},fB d f h mins=some m→∃x∈mins,m=d*1440+h*60+x∧f≤m
 |mins,e=>by unfold fB at e;have a:=List.mem_of_find?_eq_some e;have b:=List.find?_some e;obtain⟨x,c,rfl⟩:=Ex.1 a;exact⟨x,c,rfl,F5 b⟩
theorem u2 {d f m:Int}{a b:List Int}(e:dx d f a b=some m):∃h∈a,∃x∈b,m=d*1440+h*60+x∧f≤m:=by unfold dx at e;obtain⟨h,c,g⟩:=List.exists_of_findSome?_eq_some e;obtain⟨x,i,j⟩:=u3 g;exact⟨h,c,x,i,j⟩
theorem my {c:GCron}{f m:Int}:∀(n:Nat)(d:Int),iN c f n d=some m→∃a,d≤a∧a*1440≤68374079∧jH c (a*1440)=true∧∃h∈c.f1,∃x∈c.f0,m=a*1440+h*60+x∧f≤m
 | 0,d,e=>by cases e
 |n+1,d,e=>by
  unfold iN at e;split at e
  case isFalse=>cases e
  rename_i hd;split at e
  ·rename_i i;split at e
   ·rename_i l j;cases e;obtain⟨h,g,x,b,k,o⟩:=u2 j;exact⟨d,Int.le_refl _,hd,i,h,g,x,b,k,by omega⟩
   ·obtain⟨a,g,b⟩:=my n (d+1) e;exact⟨a,by omega,b⟩
  ·obtain⟨a,g,b⟩:=my n (d+1) e;exact⟨a,by omega,b⟩
theorem mS {c:GCron}(hc:bg c=true){f:Int}(e:(ar c f 400).2=true):f≤(ar c f 400).1∧(ar c f 400).1≤68374079∧0≤f:=by
 unfold ar at e ⊢;split at e
 ·rename_i a;rw[Ej a];split at e
  ·rename_i m b;obtain⟨n,o,p,q,h,d,x,g,r,i⟩:=my _ _ b;obtain⟨j,k⟩:=mp hc;have s:=j x g;have t:=k h d;have l:=(b9.1 a).1;exact⟨i,by simp only;omega,l⟩
  ·cases e
 ·cases e
theorem zA {c:GCron}{a:Int}(h:¬a<68374079)(b:a≤68374079):(ar c (inc a) 400).2=false:=by
 have:a=68374079:=by omega
 subst this;rfl
theorem wl (c:GCron)(d e:Int)(h:aA.sm c)(hc:bg c=true)(g:e≤200):∀(m n:Nat)(b:List GSpan)(a:Int)(ok:Bool),201≤m+b.length→m<n →
  dO d e c.f0 c.f1 c.f2 c.f3 c.f4 n b a ok=some (.x0 (bT c d e m b a ok))
 |m,0,b,a,ok,_,i=>by omega
 | 0,n+1,b,a,ok,j,_=>by
  unfold dO bT;cases ok with
  |false=>rfl
  |true=>simp only;rw[EA (by omega)];rfl
 |m+1,n+1,b,a,ok,j,i=>by
  have sm:aA.sm (GCron.mk c.f0 c.f1 c.f2 c.f3 c.f4):=h;have f:bg (GCron.mk c.f0 c.f1 c.f2 c.f3 c.f4)=true:=hc;have k:=fun b a=>wl c d e h hc g m n b a true
  have l:GCron.mk c.f0 c.f1 c.f2 c.f3 c.f4=c:=rfl;unfold dO bT;cases ok with
  |false=>simp
  |true =>
   simp only[Ej sm,Ej f,GK,EV];rw[l];by_cases q:(b.length:Int)<e
   ·rw[EC q,Ej q,EG];cases(ar c (inc a) 400).2 with
    |false=>simp
    |true =>
     by_cases r:(ar c (inc a) 400).1>d
     ·rw[EC r];simp[r]
     ·have o:(b.length+([(GSpan.mk a (ar c (inc a) 400).1)]).length)*16≤140737488355328∧b.length+([(GSpan.mk a (ar c (inc a) 400).1)]).length≤4611686018427387904:=by simp;omega
      rw[EA r,EG,EP,Ej o,Ej (⟨rfl,r⟩:true=true∧¬(ar c (inc a) 400).1>d)];exact k _ _ (by simp;omega) (by omega)
   ·rw[EA q,Eu q];rfl
theorem wm (c:GCron)(d e:Int)(h:aA.sm c)(hc:bg c=true)(f:e≤200):∀(m n:Nat)(b:List GSpan)(a:Int)(ok:Bool),201≤m+b.length→m<n→(ok=true→a≤68374079) →
  ∃r,cB d e c.f0 c.f1 c.f2 c.f3 c.f4 n b a ok=some r∧(r = .ret (bT c d e m b a ok)∨r = .x0 (bT c d e m b a ok))
 |m,0,b,a,ok,_,g,_=>by omega
 | 0,n+1,b,a,ok,i,_,_=>by
  unfold cB bT;cases ok with
  |false=>exact⟨_,rfl,.inr rfl⟩
  |true=>simp only;rw[EA (by omega)];exact⟨_,rfl,.inr rfl⟩
 |m+1,n+1,b,a,ok,i,g,j=>by
  have sm:aA.sm (GCron.mk c.f0 c.f1 c.f2 c.f3 c.f4):=h;have k:=fun b a=>wm c d e h hc f m n b a true
  have l:aG c (inc a) 400=ar c (inc a) 400:=by unfold aG;rw[Ej hc]
  have o:GCron.mk c.f0 c.f1 c.f2 c.f3 c.f4=c:=rfl;unfold cB bT;cases ok with
  |false=>exact⟨_,rfl,.inr (by simp)⟩
  |true =>
   simp only[Ej sm,GK,EV];rw[o,l];by_cases q:(b.length:Int)<e
   ·rw[EC q,Ej q,EG];by_cases z:a<68374079
    ·rw[EC z,EG];cases p:(ar c (inc a) 400).2 with
     |false=>exact⟨_,rfl,.inl (by simp)⟩
     |true =>
      by_cases r:(ar c (inc a) 400).1>d
      ·rw[EC r];exact⟨_,rfl,.inl (by simp[r])⟩
      ·have s:(b.length+([(GSpan.mk a (ar c (inc a) 400).1)]).length)*16≤140737488355328∧b.length+([(GSpan.mk a (ar c (inc a) 400).1)]).length≤4611686018427387904:=by simp;omega
       rw[EA r,EG,EP,Ej s,Ej (⟨rfl,r⟩:true=true∧¬(ar c (inc a) 400).1>d)];exact k _ _ (by simp;omega) (by omega) fun _=>(mS hc p).2.1
    ·rw[EA z,EP,zA z (j rfl)];exact⟨_,rfl,.inr (by simp)⟩
   ·rw[EA q,Eu q];exact⟨_,rfl,.inr rfl⟩
theorem AA (c:GCron)(a d b:Int)(h:aA.sm c)(f:b≤200):jf c a d b []=some (aJ c a d b []):=by
 unfold jf;simp only[Ej h,EV];have e:∃r,cB d b c.f0 c.f1 c.f2 c.f3 c.f4 9223372036854775808 [] (aG c a 400).1 (aG c a 400).2=some r∧(r = .ret (aJ c a d b [])∨r = .x0 (aJ c a d b [])):=by
  unfold aJ aG;cases hc:bg c with
  |false =>simp only[EE,E3];unfold cB;exact⟨_,rfl,.inr rfl⟩
  |true =>simp only[EV];exact wm c d b h hc f 201 9223372036854775808 [] (ar c a 400).1 (ar c a 400).2 (by simp) (by omega) fun g=>(mS hc g).2.1
 obtain⟨r,i,j⟩:=e;rw[i,Eg];rcases j with rfl|rfl<;>rfl
theorem rC (c:GCron)(e b:Int)(f:b≤200):∀(n:Nat)(d:List GSpan)(a:Int)(ok:Bool),(d.length:Int)≤200→((bT c e b n d a ok).length:Int)≤200
 | 0,d,a,ok,h=>h
 |n+1,d,a,ok,h=>by
  unfold bT;split
  ·split
   ·exact rC c e b f n _ _ _ (by simp;omega)
   ·exact h
  ·exact h
theorem oB (a:GCron)(d:Int)(c:Int)(b:Int)(h:aA.sm a)(hc:bg a=true)(e:b≤200):Does E 23 [.agg (DX .far a),D7 d,D7 c,D7 b] [(false,[Ec 2 ((cp a d c b).map DY)])]:=by exact vj a d c b _ (by unfold lA;simp only[Ej h,Ej hc,EV];rw[wl a c b h hc e 201 9223372036854775808 [] _ _ (by simp) (by omega)];rfl)
theorem iI (a:GCron)(c:Int)(d:Int)(b:Int)(e:List GSpan)(h:aA.sm a)(f:b≤200)(g:e=[]):Does E 24 [.agg (DX .far a),D7 c,D7 d,D7 b,.one (Ec 2 (e.map DY))] [(false,[.any]),(false,[Ec 2 ((aJ a c d b e).map DY)])]:=by subst g;exact uw a c d b [] _ (AA a c d b h f)
noncomputable def oe (a:GCron)(c d b:Int):Option ((List GSpan)):=cond (decide (b>(20:Int))) (if aA.sm a then if(20:Int)≤200 then if([]:List GSpan)=[]then some (aJ a c d 20 ([]:List GSpan))else none else none else none) (if aA.sm a then if b≤200 then if([]:List GSpan)=[]then some (aJ a c d b ([]:List GSpan))else none else none else none)
theorem yF (a:GCron)(b c d:Int):Ans (oe a b c d) (fun r=>Does E 10 [.agg (DX .far a),D7 b,D7 c,D7 d] [(false,[Ec 2 (r.map DY)])]):=by
 unfold oe;apply DO<;>intro h
 ·apply DR;intro e;apply DR;intro f;apply DR;intro g;exact DL (DP Try.f10 [.b true,.ret [(false,[.any]),(false,[Ec 2 ((aJ a b c 20 ([]:List GSpan)).map DY)])]] (AC h<|AV (ψ:=fun k=>E.C k 24 [.agg (DX .far a),D7 b,D7 c,D7 20,.one (Ec 2 (([]:List GSpan).map DY))]=some [(false,[.any]),(false,[Ec 2 ((aJ a b c 20 ([]:List GSpan)).map DY)])]) (iI a b c 20 ([]:List GSpan) e f g)<|AN))
 ·apply DR;intro e;apply DR;intro f;apply DR;intro g;exact DL (DP Try.f10 [.b false,.ret [(false,[.any]),(false,[Ec 2 ((aJ a b c d ([]:List GSpan)).map DY)])]] (AC h<|AV (ψ:=fun k=>E.C k 24 [.agg (DX .far a),D7 b,D7 c,D7 d,.one (Ec 2 (([]:List GSpan).map DY))]=some [(false,[.any]),(false,[Ec 2 ((aJ a b c d ([]:List GSpan)).map DY)])]) (iI a b c d ([]:List GSpan) e f g)<|AN))
noncomputable def ay (c:GCron)(a b d:Int):List GSpan:=if bg c=true then cp c a b (fp d 20)else []
theorem bF (b:GCron)(c:Int)(d:Int)(a:Int)(h:aA.sm b):Does E 10 [.agg (DX .far b),D7 c,D7 d,D7 a] [(false,[Ec 2 ((ay b c d a).map DY)])]:=by
 exact yF b c d a _ (by
  unfold oe ay aJ fp;have e:(20:Int)≤200:=by omega
  simp only[Ej h,e,EV];by_cases q:a>20
  ·rw[EC q,EG,Ej (show 20<a from q)];try rfl
  ·rw[EA q,EP,Ej (show a≤200 by omega),Eu (show ¬ 20<a from q)];try rfl)
noncomputable def wa (a:List Int):Option (Bool):=some (decide ((a.length:Int)>(1048576:Int)))
theorem Ac (a:List Int):Ans (wa a) (fun r=>Does E 5 [.one (Ed 1 (a.map etY))] [D5 r]):=by unfold wa;exact DL (DP Try.f5 [Ea (a.length:Int)] (ALn a etY<|AN))
def sv (x:List Int):Bool:=decide ((x.length:Int)>(1048576:Int))
theorem cb (a:List Int):Does E 5 [.one (Ed 1 (a.map etY))] [D5 (sv a)]:=by exact Ac a _ rfl
theorem ot (c:GCron)(e b:Int):∀(n:Nat)(d:List GSpan)(a:Int)(ok:Bool),(d.length:Int)≤b→((bT c e b n d a ok).length:Int)≤b
 | 0,d,a,ok,h=>h
 |n+1,d,a,ok,h=>by
  unfold bT;split
  ·split
   ·rename_i f _;exact ot c e b n _ _ _ (by rw[Fo,E2];omega)
   ·exact h
  ·exact h
theorem qo (c:GCron)(d e:Int):∀(n:Nat)(b:List GSpan)(a:Int)(ok:Bool),∃t,bT c d e n b a ok=b++t
 | 0,b,a,ok=>⟨[],(EH _).symm⟩
 |n+1,b,a,ok=>by
  unfold bT;split
  ·split
   ·obtain⟨t,f⟩:=qo c d e n (b++[⟨a,(ar c (inc a) 400).1⟩]) (ar c (inc a) 400).1 true;exact⟨_::t,by rw[f,GA];rfl⟩
   ·exact⟨[],(EH _).symm⟩
  ·exact⟨[],(EH _).symm⟩
theorem qp (c:GCron)(d f g:Int)(h:f≤g):∀(n:Nat)(b:List GSpan)(a:Int)(ok:Bool),∃t,bT c d g n b a ok=bT c d f n b a ok++t
 | 0,b,a,ok=>⟨[],(EH _).symm⟩
 |n+1,b,a,ok=>by
  by_cases q:ok=true∧(b.length:Int)<f
  ·have i:ok=true∧(b.length:Int)<g:=⟨q.1,by omega⟩
   unfold bT;rw[Ej q,Ej i];split
   ·exact qp c d f g h n _ _ _
   ·exact⟨[],(EH _).symm⟩
  ·have e:bT c d f (n+1) b a ok=b:=by unfold bT;rw[Eu q]
   rw[e];exact qo c d g (n+1) b a ok
theorem zE (c:GCron)(m a k:Int)(b:0≤k)(h:k≤20):((ay c m a k).length:Int)≤k:=by
 have e:fp k 20=k:=by unfold fp;split<;>omega
 unfold ay;split
 ·rw[e];exact ot c a k 201 [] _ _ (by simpa using b)
 ·simpa using b
end
end Go.Proofs.Ytlhgcolciklecaa.Am
