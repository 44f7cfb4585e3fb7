/- The rule of stars. -/
import Derived.Test.YtlhgcolciklecaaDraws
import Derived.Test.YtlhgcolciklecaaShelf
namespace Go.Proofs.Ytlhgcolciklecaa.Am
open Go
set_option linter.unusedVariables false
set_option linter.unusedSimpArgs false
section
open Go.Proofs Classical
set_option maxRecDepth 100000
inductive oc where|ret (v2:List GM) (v3:Bool)|x0 (v4:List GM)
def bk (a:GM)(v4:List GM)(v5 v6:Int):US:=stL 62 [(0,D9 a),(4,.one (Ec 1 (v4.map etS))),(5,D7 v5),(6,D7 v6)]
def f8 (a:List GM)(b:Bool):US:=stL 62 [(2,.one (Ec 1 (a.map etS))),(3,D8 b)]
def gC (a:List GM):US:=stL 62 [(4,.one (Ec 1 (a.map etS)))]
abbrev dk:US→Exit→US→Prop:=Round E 30 (aI Try.f30 0)
def uk (d:GM)(v4:List GM)(v5 v6:Int):oc→Prop| .ret a b=>Loops E 30 (aI Try.f30 0) (bk d v4 v5 v6) .ret (f8 a b)| .x0 c=>Loops E 30 (aI Try.f30 0) (bk d v4 v5 v6) (.exit 0) (gC c)
noncomputable def bS (a:GM):Nat→(List GM)→Int→Int→Option oc| 0,_,_,_=>none|n+1,v4,v5,v6=>cond (decide (v6≤(a.size:Int))) (cond (decide (v6<(a.size:Int))) (if 0≤v6∧v6<(a.size:Int)then cond (decide ((fW a v6)<(32:Int))) (some (.ret ([]) false)) (cond (decide ((fW a v6)>(126:Int))) (some (.ret ([]) false)) (cond ((fW a v6) != 32) (bS a n v4 v5 (inc v6)) (cond (decide (v5<v6)) (if 0≤v5∧v5≤v6∧v6≤(a.size:Int)then if(v4.length+([a.extract v5.toNat v6.toNat]).length)*16≤140737488355328∧v4.length+([a.extract v5.toNat v6.toNat]).length≤4611686018427387904 then bS a n (v4++([a.extract v5.toNat v6.toNat])) (inc v6) (inc v6)else none else none) (bS a n v4 (inc v6) (inc v6)))))else none) (cond (decide (v5<v6)) (if 0≤v5∧v5≤v6∧v6≤(a.size:Int)then if(v4.length+([a.extract v5.toNat v6.toNat]).length)*16≤140737488355328∧v4.length+([a.extract v5.toNat v6.toNat]).length≤4611686018427387904 then bS a n (v4++([a.extract v5.toNat v6.toNat])) (inc v6) (inc v6)else none else none) (bS a n v4 (inc v6) (inc v6)))) (some (.x0 v4))
theorem uj (a:GM)(n:Nat):∀(v4:List GM)(v5 v6:Int),Ans (bS a n v4 v5 v6) (uk a v4 v5 v6):=by
 induction n with
 |zero=>intros;exact Ans.none
 |succ n h =>
  intro v4 v5 v6;unfold bS;apply DO<;>intro e
  ·apply DO<;>intro c
   ·apply DR;intro b;apply DO<;>intro f
    ·exact DL (DN (show dk (bk a v4 v5 v6) .ret (f8 ([]) false)from RP [.b true,.b true,.b true] (AC e<|AC c<|AC b<|AC f<|AN)))
    ·apply DO<;>intro g
     ·exact DL (DN (show dk (bk a v4 v5 v6) .ret (f8 ([]) false)from RP [.b true,.b true,.b false,.b true] (AC e<|AC c<|AC b<|AC f<|AC b<|AC g<|AN)))
     ·apply DO<;>intro i
      ·have r:dk (bk a v4 v5 v6) .normal (bk a v4 v5 (inc v6)):=RP [.b true,.b true,.b false,.b false,.b true,.b true] (AC e<|AC c<|AC b<|AC f<|AC b<|AC g<|AC c<|AC b<|AC i<|AN);exact(h v4 v5 (inc v6)).mono fun y d=>by cases y<;>exact DM r d
      ·apply DO<;>intro j
       ·apply DR;intro k;apply DR;intro l;have r:dk (bk a v4 v5 v6) .normal (bk a (v4++([a.extract v5.toNat v6.toNat])) (inc v6) (inc v6)):=RP [.b true,.b true,.b false,.b false,.b true,.b false,.b true,.rows ((v4++([a.extract v5.toNat v6.toNat])).map etS)] (AC e<|AC c<|AC b<|AC f<|AC b<|AC g<|AC c<|AC b<|AC i<|AC j<|AC k<|AAp etS (fun _=>rfl) l<|AN);exact(h (v4++([a.extract v5.toNat v6.toNat])) (inc v6) (inc v6)).mono fun y d=>by cases y<;>exact DM r d
       ·have r:dk (bk a v4 v5 v6) .normal (bk a v4 (inc v6) (inc v6)):=RP [.b true,.b true,.b false,.b false,.b true,.b false,.b false] (AC e<|AC c<|AC b<|AC f<|AC b<|AC g<|AC c<|AC b<|AC i<|AC j<|AN);exact(h v4 (inc v6) (inc v6)).mono fun y d=>by cases y<;>exact DM r d
   ·apply DO<;>intro b
    ·apply DR;intro f;apply DR;intro g;have r:dk (bk a v4 v5 v6) .normal (bk a (v4++([a.extract v5.toNat v6.toNat])) (inc v6) (inc v6)):=RP [.b true,.b false,.b false,.b true,.rows ((v4++([a.extract v5.toNat v6.toNat])).map etS)] (AC e<|AC c<|AC c<|AC b<|AC f<|AAp etS (fun _=>rfl) g<|AN);exact(h (v4++([a.extract v5.toNat v6.toNat])) (inc v6) (inc v6)).mono fun y d=>by cases y<;>exact DM r d
    ·have r:dk (bk a v4 v5 v6) .normal (bk a v4 (inc v6) (inc v6)):=RP [.b true,.b false,.b false,.b false] (AC e<|AC c<|AC c<|AC b<|AN);exact(h v4 (inc v6) (inc v6)).mono fun y d=>by cases y<;>exact DM r d
  ·exact DL (DN (show dk (bk a v4 v5 v6) (.exit 0) (gC v4)from RP [.b false] (AC e<|AN)))
noncomputable def jM (d:GM):Option ((List GM)×Bool):=
  cond (decide ((d.size:Int)>(600:Int)))
   (some (([]:List GM),false))
   ((bS d 9223372036854775808 ([]) 0 0).bind fun y=>match y with
    | .ret b c=>(some (b,c))
    | .x0 a=>(cond (decide ((a.length:Int)>(10:Int)))
     (some (([]:List GM),false))
     (some (a,true))))
theorem vv (x0:GM):Ans (jM x0) (fun r=>Does E 30 [D9 x0] [(false,[Ec 1 (r.1.map etS)]),D5 r.2]):=by
 unfold jM;apply DO<;>intro d
 ·exact DL (DP Try.f30 [.b true] (AC d<|AN))
 ·apply DQ;intro y e;replace e:=uj x0 9223372036854775808 ([]) 0 0 y e;cases y with
  |ret b c =>have f:=e;exact DL (DP Try.f30 [.b false,.lp .ret (f8 b c)] (AC d<|AL f<|AN))
  |x0 a =>
   have f:=e;apply DO<;>intro g
   ·exact DL (DP Try.f30 [.b false,.lp (.exit 0) (gC a),Ea (a.length:Int),.b true] (AC d<|AL f<|ALn a etS<|AC g<|AN))
   ·exact DL (DP Try.f30 [.b false,.lp (.exit 0) (gC a),Ea (a.length:Int),.b false] (AC d<|AL f<|ALn a etS<|AC g<|AN))
def okB (b:UInt8):Bool:=decide (32≤b.toNat)&&decide (b.toNat≤126)
theorem AI {b:UInt8}(h:b.toNat<32):okB b=false:=by unfold okB;rw[EA (by omega)];rfl
theorem AF {b:UInt8}(h:126<b.toNat):okB b=false:=by unfold okB;rw[EA (by omega:¬b.toNat≤126),Bool.and_false]
theorem AH {b:UInt8}(h:¬b.toNat<32)(a:¬ 126<b.toNat):okB b=true:=by unfold okB;rw[EC (by omega),EC (by omega)];rfl
def bj (x:GM):Bool := !(x.toList==ByteArray.empty.toList)
noncomputable def bu (s:GM):List GM×Bool :=if 600<s.size then([],false)else if(tx s).all okB=true then(if 10<(((cj 32 (tx s)).map c9).filter bj).length then([],false)else(((cj 32 (tx s)).map c9).filter bj,true))else([],false)
theorem pk (l:List UInt8):bj (c9 l)= !l.isEmpty:=by unfold bj;rw[At];have:tx ByteArray.empty=[]:=rfl;rw[this,Ak];cases l<;>rfl
theorem xw (s:GM):dI s=(tx s).map fun b=>(b.toNat:Int):=rfl
theorem sP {s:GM}{i:Nat}{b:UInt8}(h:(tx s)[i]?=some b):fW s (i:Int)=(b.toNat:Int):=by
 have hi:i<s.size:=by
  rw[jF];rcases Em i (tx s).length with g|g
  ·exact g
  ·rw[Ek g]at h;cases h
 have:=o7 s i hi;rw[xw,Et,h]at this;exact(Option.some.inj this).symm
theorem tl {l:List UInt8}{i:Nat}(h:i<l.length):∃b r,l.drop i=b::r∧l[i]?=some b∧l.drop (i+1)=r:=by refine⟨l[i],l.drop (i+1),Gc h,El h,rfl⟩
theorem yz (s:GM)(hs:s.size≤2000000):∀(m i a:Nat)(v:List GM)(n:Nat),i+m=(tx s).length→m+1<n→a≤i→v.length+m≤2000000 →
  bS s n v (a:Int) (i:Int)=some (if((tx s).drop i).all okB=true then .x0 (v++((eN (seg (tx s) a i) (cj 32 ((tx s).drop i))).map c9).filter bj)else .ret [] false)
 |m,i,a,v,n,hi,A,f,hv=>by
  obtain⟨n,rfl⟩:∃k,n=k+2:=⟨n-2,by omega⟩
  have u:=jF s;unfold bS;rw[EC (by omega:(i:Int)≤(s.size:Int)),EG];have c:inc (i:Int)=((i+1:Nat):Int):=by rw[dP _ (by omega) (by omega)];omega
  cases m with
  |zero =>
   have hd:(tx s).drop i=[]:=Fq (by omega);have stop:∀w b,bS s (n+1) w b ((i+1:Nat):Int)=some (.x0 w):=fun w b=>by unfold bS;rw[EA (by omega)];rfl
   have hc:eN (seg (tx s) a i) (cj 32 ([]:List UInt8))=[seg (tx s) a i]:=by simp[cj,eN]
   have hf:([seg (tx s) a i].map c9).filter bj=if a=i then []else [s.extract a i]:=by
    rw[EB,E6,Fx,pk,wh f (by omega),jJ];by_cases q:a=i
    ·rw[Ej q,EC q];rfl
    ·rw[Eu q,EA q];rfl
   rw[EA (by omega:¬(i:Int)<(s.size:Int)),EP,c,hd,hc,hf,List.all_nil,Ej rfl];by_cases q:a=i
   ·rw[EA (by omega),EP,stop,Ej q,EH]
   ·rw[EC (by omega),EG,Ej (by omega),Ej (by simp;omega),stop,Eu q];rfl
  |succ m =>
   obtain⟨b,r,hd,j,x⟩:=tl (l:=tx s) (i:=i) (by omega);have hb:=sP j;have d:=fun o p (y:o≤i+1) (z:p.length+m≤2000000)=>yz s hs m (i+1) o p (n+1) (by omega) (by omega) y z
   rw[x]at d;rw[EC (by omega:(i:Int)<(s.size:Int)),EG,Ej (by omega),hb,c,hd,GL];have bl:=b.toNat_lt;by_cases h:b.toNat<32
   ·rw[EC (by omega:((b.toNat:Int)<32)),EG,AI h];rfl
   ·rw[EA (by omega:¬((b.toNat:Int)<32)),EP];by_cases t:126<b.toNat
    ·rw[EC (by omega:((b.toNat:Int)>126)),EG,AF t];rfl
    ·rw[EA (by omega:¬((b.toNat:Int)>126)),EP,AH h t,Gz];by_cases q:b=32
     ·subst q;have e:(((32:UInt8).toNat:Int) != 32)=false:=by decide
      rw[e,EP,sS];have g:eN (seg (tx s) a i) ([]::cj 32 r)=seg (tx s) a i::cj 32 r:=by simp[eN]
      rw[g,EB,Fx,pk,wh f (by omega)];have hz:eN (seg (tx s) (i+1) (i+1)) (cj 32 r)=cj 32 r:=by rw[kW];exact mz _ (jl _ _)
      by_cases q:a=i
      ·have:=d (i+1) v (by omega) (by omega);rw[hz]at this;rw[EA (by omega),EP,this,EC q];rfl
      ·have:=d (i+1) (v++[s.extract a i]) (by omega) (by simp;omega);rw[hz]at this;rw[EC (by omega),EG,Ej (by omega),Ej (by simp;omega)];rw[show((a:Int).toNat)=a by omega,show((i:Int).toNat)=i by omega,this,EA q,jJ];simp
     ·have e:((b.toNat:Int) != 32)=true:=by rw[bne_iff_ne];intro h;exact q (UInt8.toNat_inj.1 (by show b.toNat=32;omega))
      rw[e,EG,d a v (by omega) (by omega),rb q,rq _ _ _ (jl _ _), ←ux f j]
theorem yy (s:GM):jM s=some (bu s):=by
 unfold jM bu;by_cases h:600<s.size
 ·rw[EC (by omega),Ej h];rfl
 ·have hz:eN (seg (tx s) 0 0) (cj 32 (tx s))=cj 32 (tx s):=by rw[kW];exact mz _ (jl _ _)
  have e:=yz s (by omega) (tx s).length 0 0 [] 9223372036854775808 (by omega) (by rw[←jF];omega) (by omega) (by rw[←jF];simp;omega);rw[FW,hz,EL]at e;rw[EA (by omega),Eu h,EP];refine(FP (Option.bind · _) e).trans ?_;by_cases q:(tx s).all okB=true
  ·rw[Ej q,Ej q,Eg];simp only;by_cases r:10<(((cj 32 (tx s)).map c9).filter bj).length
   ·rw[EC (by omega),Ej r];rfl
   ·rw[EA (by omega),Eu r];rfl
  ·rw[Eu q,Eu q];rfl
theorem uN (a:GM):Does E 30 [D9 a] [(false,[Ec 1 (((bu a).1).map etS)]),D5 ((bu a).2)]:=by exact vv a _ (yy a)
theorem gX (a:GM){c:Bool}(b:(bu a).2=c):Does E 30 [D9 a] [(false,[Ec 1 (((bu a).1).map etS)]),D5 c]:=by rw[←b];exact uN a
inductive m9 where|x0 (v5:List GM)
def c6 (a:GM)(b:Int)(v5:List GM)(v6 v7:Int):US:=stL 36 [(0,D9 a),(1,.one (tY b)),(5,.one (Ec 1 (v5.map etS))),(6,D7 v6),(7,D7 v7)]
def jd (a:List GM):US:=stL 36 [(5,.one (Ec 1 (a.map etS)))]
abbrev ic:US→Exit→US→Prop:=Round E 41 (aI Try.f41 0)
def sg (b:GM)(c:Int)(v5:List GM)(v6 v7:Int):m9→Prop| .x0 a=>Loops E 41 (aI Try.f41 0) (c6 b c v5 v6 v7) (.exit 0) (jd a)
noncomputable def ca (a:GM)(b:Int):Nat→(List GM)→Int→Int→Option m9| 0,_,_,_=>none|n+1,v5,v6,v7=>cond (decide (v7≤(a.size:Int))) (cond (v7==(a.size:Int)) (if 0≤v6∧v6≤v7∧v7≤(a.size:Int)then if(v5.length+([a.extract v6.toNat v7.toNat]).length)*16≤140737488355328∧v5.length+([a.extract v6.toNat v7.toNat]).length≤4611686018427387904 then ca a b n (v5++([a.extract v6.toNat v7.toNat])) (inc v7) (inc v7)else none else none) (if 0≤v7∧v7<(a.size:Int)then cond ((fW a v7)==b) (if 0≤v6∧v6≤v7∧v7≤(a.size:Int)then if(v5.length+([a.extract v6.toNat v7.toNat]).length)*16≤140737488355328∧v5.length+([a.extract v6.toNat v7.toNat]).length≤4611686018427387904 then ca a b n (v5++([a.extract v6.toNat v7.toNat])) (inc v7) (inc v7)else none else none) (ca a b n v5 v6 (inc v7))else none)) (some (.x0 v5))
theorem sf (a:GM)(b:Int)(n:Nat):∀(v5:List GM)(v6 v7:Int),Ans (ca a b n v5 v6 v7) (sg a b v5 v6 v7):=by
 induction n with
 |zero=>intros;exact Ans.none
 |succ n g =>
  intro v5 v6 v7;unfold ca;apply DO<;>intro d
  ·apply DO<;>intro h
   ·apply DR;intro e;apply DR;intro f;have r:ic (c6 a b v5 v6 v7) .normal (c6 a b (v5++([a.extract v6.toNat v7.toNat])) (inc v7) (inc v7)):=RP [.b true,.b true,.rows ((v5++([a.extract v6.toNat v7.toNat])).map etS)] (AC d<|AC h<|AC e<|AAp etS (fun _=>rfl) f<|AN);exact(g (v5++([a.extract v6.toNat v7.toNat])) (inc v7) (inc v7)).mono fun y c=>by cases y<;>exact DM r c
   ·apply DR;intro e;apply DO<;>intro f
    ·apply DR;intro i;apply DR;intro j;have r:ic (c6 a b v5 v6 v7) .normal (c6 a b (v5++([a.extract v6.toNat v7.toNat])) (inc v7) (inc v7)):=RP [.b true,.b false,.b true,.rows ((v5++([a.extract v6.toNat v7.toNat])).map etS)] (AC d<|AC h<|AC e<|AC f<|AC i<|AAp etS (fun _=>rfl) j<|AN);exact(g (v5++([a.extract v6.toNat v7.toNat])) (inc v7) (inc v7)).mono fun y c=>by cases y<;>exact DM r c
    ·have r:ic (c6 a b v5 v6 v7) .normal (c6 a b v5 v6 (inc v7)):=RP [.b true,.b false,.b false] (AC d<|AC h<|AC e<|AC f<|AN);exact(g v5 v6 (inc v7)).mono fun y c=>by cases y<;>exact DM r c
  ·exact DL (DN (show ic (c6 a b v5 v6 v7) (.exit 0) (jd v5)from RP [.b false] (AC d<|AN)))
noncomputable def je (b:GM)(c:Int):Option ((List GM)):=
  (ca b c 9223372036854775808 ([]) 0 0).bind fun y=>match y with
   | .x0 a=>(some (a))
theorem uv (x0:GM)(b:Int):Ans (je x0 b) (fun r=>Does E 41 [D9 x0,.one (tY b)] [(false,[Ec 1 (r.map etS)])]):=by
 unfold je;apply DQ;intro y c;replace c:=sf x0 b 9223372036854775808 ([]) 0 0 y c;cases y with
 |x0 a =>have d:=c;exact DL (DP Try.f41 [.lp (.exit 0) (jd a)] (AL d<|AN))
noncomputable def ag (s:GM)(c:Int):List GM:=(cj (UInt8.ofNat c.toNat) (tx s)).map c9
theorem yK (s:GM)(c:UInt8)(hs:s.size≤2000000):∀(m i a:Nat)(v:List GM)(n:Nat),i+m=(tx s).length→m+1<n→a≤i→v.length+m≤2000000 →
  ca s (c.toNat:Int) n v (a:Int) (i:Int)=some (.x0 (v++(eN (seg (tx s) a i) (cj c ((tx s).drop i))).map c9))
 |m,i,a,v,n,hi,A,t,hv=>by
  obtain⟨n,rfl⟩:∃k,n=k+2:=⟨n-2,by omega⟩
  have u:=jF s;unfold ca;rw[EC (by omega:(i:Int)≤(s.size:Int)),EG];have d:inc (i:Int)=((i+1:Nat):Int):=by rw[dP _ (by omega) (by omega)];omega
  cases m with
  |zero =>
   have hd:(tx s).drop i=[]:=Fq (by omega);have stop:∀w b,ca s (c.toNat:Int) (n+1) w b ((i+1:Nat):Int)=some (.x0 w):=fun w b=>by unfold ca;rw[EA (by omega)];rfl
   have hc:eN (seg (tx s) a i) (cj c ([]:List UInt8))=[seg (tx s) a i]:=by simp[cj,eN]
   have e:((i:Int)==(s.size:Int))=true:=by rw[GC];omega
   rw[e,EG,Ej (by omega),Ej (by simp;omega),d,stop,hd,hc,show((a:Int).toNat)=a by omega,show((i:Int).toNat)=i by omega,jJ];rfl
  |succ m =>
   obtain⟨b,r,hd,j,x⟩:=tl (l:=tx s) (i:=i) (by omega);have hb:=sP j;have f:=fun o p (y:o≤i+1) (z:p.length+m≤2000000)=>yK s c hs m (i+1) o p (n+1) (by omega) (by omega) y z
   rw[x]at f;have e:((i:Int)==(s.size:Int))=false:=by rw[FB];omega
   rw[e,EP,Ej (by omega),hb,d,hd];by_cases q:b=c
   ·subst q;have g:eN (seg (tx s) a i) ([]::cj b r)=seg (tx s) a i::cj b r:=by simp[eN]
    have hz:eN (seg (tx s) (i+1) (i+1)) (cj b r)=cj b r:=by rw[kW];exact mz _ (jl _ _)
    have:=f (i+1) (v++[s.extract a i]) (by omega) (by simp;omega);rw[hz]at this;rw[F2,EG,Ej (by omega),Ej (by simp;omega),sS,g];rw[show((a:Int).toNat)=a by omega,show((i:Int).toNat)=i by omega,this,jJ];simp
   ·have e:((b.toNat:Int)==(c.toNat:Int))=false:=by rw[FB];intro h;exact q (UInt8.toNat_inj.1 (by omega))
    rw[e,EP,f a v (by omega) (by omega),rb q,rq _ _ _ (jl _ _), ←ux t j]
theorem xe (s:GM)(c:Int)(hs:s.size≤2000000)(hc:0≤c∧c<256):je s c=some (ag s c):=by
 have hz:eN (seg (tx s) 0 0) (cj (UInt8.ofNat c.toNat) (tx s))=cj (UInt8.ofNat c.toNat) (tx s):=by rw[kW];exact mz _ (jl _ _)
 have e:=yK s (UInt8.ofNat c.toNat) hs (tx s).length 0 0 [] 9223372036854775808 (by omega) (by rw[←jF];omega) (by omega) (by rw[←jF];simp;omega);have a:(((UInt8.ofNat c.toNat).toNat:Nat):Int)=c:=by rw[UInt8.toNat_ofNat'];omega
 rw[FW,hz,EL,a]at e;unfold je ag;refine(FP (Option.bind · _) e).trans ?_;rfl
theorem aH (b:GM)(a:Int)(h:b.size≤2000000)(hc:0≤a∧a<256):Does E 41 [D9 b,.one (tY a)] [(false,[Ec 1 ((ag b a).map etS)])]:=by exact uv b a _ (xe b a h hc)
noncomputable def d8 (a:Int):Option (Int):=cond (decide (a<(10:Int))) (some (IntKind.wrap .u8 (IntKind.wrap .i64 ((48:Int)+a)))) (some (IntKind.wrap .u8 (IntKind.wrap .i64 ((IntKind.wrap .i64 ((97:Int)+a))-(10:Int)))))
theorem r6 (a:Int):Ans (d8 a) (fun r=>Does E 58 [D7 a] [(false,[tY r])]):=by
 unfold d8;apply DO<;>intro b
 ·exact DL (DP Try.f58 [.b true] (AC b<|AN))
 ·exact DL (DP Try.f58 [.b false] (AC b<|AN))
noncomputable def bZ (x:Int):Int:=(d8 x).getD 0
theorem mO (a:Int)(h:d8 a=some (bZ a)):Does E 58 [D7 a] [(false,[tY (bZ a)])]:=by exact r6 a _ h
inductive ob where|x0 (v4:GM)
def eU (a:Int)(v3:Bool)(v4:GM):US:=stL 30 [(0,D7 a),(3,D8 v3),(4,D9 v4)]
def gB (v3:Bool)(a:GM):US:=stL 30 [(3,D8 v3),(4,D9 a)]
abbrev kR:US→Exit→US→Prop:=Round E 56 (aI Try.f56 0)
def uf (b:Int)(v3:Bool)(v4:GM):ob→Prop| .x0 a=>Loops E 56 (aI Try.f56 0) (eU b v3 v4) (.exit 0) (gB v3 a)
noncomputable def eV  : Nat→Int→Bool→GM→Option ob| 0,_,_,_=>none|n+1,a,v3,v4=>cond (a != 0) (cond (decide ((Int.tmod a (10:Int))<(0:Int))) (if d8 (IntKind.wrap .i64 (0-(Int.tmod a 10)))=some (bZ (IntKind.wrap .i64 (0-(Int.tmod a 10))))then if(strOfNums ([bZ (IntKind.wrap .i64 (0-(Int.tmod a 10)))])).size+v4.size≤kM then eV n (IntKind.wrap .i64 (Int.tdiv a 10)) v3 ((strOfNums ([bZ (IntKind.wrap .i64 (0-(Int.tmod a 10)))]))++v4)else none else none) (if d8 (Int.tmod a (10:Int))=some (bZ (Int.tmod a 10))then if(strOfNums ([bZ (Int.tmod a 10)])).size+v4.size≤kM then eV n (IntKind.wrap .i64 (Int.tdiv a 10)) v3 ((strOfNums ([bZ (Int.tmod a 10)]))++v4)else none else none)) (some (.x0 v4))
theorem oa  (n:Nat):∀(a:Int)(v3:Bool)(v4:GM),Ans (eV n a v3 v4) (uf a v3 v4):=by
 induction n with
 |zero=>intros;exact Ans.none
 |succ n f =>
  intro a v3 v4;unfold eV;apply DO<;>intro b
  ·apply DO<;>intro g
   ·apply DR;intro c;apply DR;intro d;have r:kR (eU a v3 v4) .normal (eU (IntKind.wrap .i64 (Int.tdiv a 10)) v3 ((strOfNums ([bZ (IntKind.wrap .i64 (0-(Int.tmod a 10)))]))++v4)):=RP [.b true,.no,.b true,.ret [(false,[tY (bZ (IntKind.wrap .i64 (0-(Int.tmod a 10))))])],.val (.string (strOfNums ([bZ (IntKind.wrap .i64 (0-(Int.tmod a 10)))]))),.val (.string ((strOfNums ([bZ (IntKind.wrap .i64 (0-(Int.tmod a 10)))]))++v4))] (AC b<|AC g<|AD (mO (IntKind.wrap .i64 (0-(Int.tmod a 10))) c)<|AC (p:=(ci (((([bZ (IntKind.wrap .i64 (0-(Int.tmod a 10)))]).map etY).drop 0).take (([bZ (IntKind.wrap .i64 (0-(Int.tmod a 10)))]).map etY).length)).map strOfNums=some (strOfNums ([bZ (IntKind.wrap .i64 (0-(Int.tmod a 10)))]))) (by simp only[F7,FW];exact yM)<|AC (uE (tab:=E.tab) (t:=9) d)<|AN);exact(f (IntKind.wrap .i64 (Int.tdiv a 10)) v3 ((strOfNums ([bZ (IntKind.wrap .i64 (0-(Int.tmod a 10)))]))++v4)).mono fun y e=>by cases y<;>exact DM r e
   ·apply DR;intro c;apply DR;intro d;have r:kR (eU a v3 v4) .normal (eU (IntKind.wrap .i64 (Int.tdiv a 10)) v3 ((strOfNums ([bZ (Int.tmod a 10)]))++v4)):=RP [.b true,.no,.b false,.ret [(false,[tY (bZ (Int.tmod a 10))])],.val (.string (strOfNums ([bZ (Int.tmod a 10)]))),.val (.string ((strOfNums ([bZ (Int.tmod a 10)]))++v4))] (AC b<|AC g<|AD (mO (Int.tmod a 10) c)<|AC (p:=(ci (((([bZ (Int.tmod a 10)]).map etY).drop 0).take (([bZ (Int.tmod a 10)]).map etY).length)).map strOfNums=some (strOfNums ([bZ (Int.tmod a 10)]))) (by simp only[F7,FW];exact yM)<|AC (uE (tab:=E.tab) (t:=9) d)<|AN);exact(f (IntKind.wrap .i64 (Int.tdiv a 10)) v3 ((strOfNums ([bZ (Int.tmod a 10)]))++v4)).mono fun y e=>by cases y<;>exact DM r e
  ·exact DL (DN (show kR (eU a v3 v4) (.exit 0) (gB v3 v4)from RP [.b false] (AC b<|AN)))
noncomputable def gV (b:Int):Option (GM):=
  cond (b==(0:Int))
   (some ((⟨#[48]⟩:GM)))
   (cond (decide (b<(0:Int)))
    ((eV 9223372036854775808 b true ByteArray.empty).bind fun y=>match y with
     | .x0 a=>(if(⟨#[45]⟩:GM).size+a.size≤kM then some ((⟨#[45]⟩:GM)++a)else none))
    ((eV 9223372036854775808 b false ByteArray.empty).bind fun y=>match y with
     | .x0 a=>(some (a))))
theorem vu (x0:Int):Ans (gV x0) (fun r=>Does E 56 [D7 x0] [D6 r]):=by
 unfold gV;apply DO<;>intro c
 ·exact DL (DP Try.f56 [.b true] (AC c<|AN))
 ·apply DO<;>intro e
  ·apply DQ;intro y b;replace b:=oa 9223372036854775808 x0 true ByteArray.empty y b;cases y with
   |x0 a =>have d:=b;apply DR;intro f;exact DL (DP Try.f56 [.b false,.b true,.lp (.exit 0) (gB true a),.val (.string ((⟨#[45]⟩:GM)++a))] (AC c<|AC e<|AL d<|AC (uE (tab:=E.tab) (t:=9) f)<|AN))
  ·apply DQ;intro y b;replace b:=oa 9223372036854775808 x0 false ByteArray.empty y b;cases y with
   |x0 a =>have d:=b;exact DL (DP Try.f56 [.b false,.b false,.lp (.exit 0) (gB false a)] (AC c<|AC e<|AL d<|AN))
noncomputable def jm (x:Int):GM:=(gV x).getD ByteArray.empty
theorem oC (a:Int)(h:gV a=some (jm a)):Does E 56 [D7 a] [D6 (jm a)]:=by exact vu a _ h
inductive kT where|ret (v2:Int) (v3:Bool)|x0 (v4:Int)
def cE (a:GM)(v4 v5:Int):US:=stL 42 [(0,D9 a),(4,D7 v4),(5,D7 v5)]
def dW (a:Int)(b:Bool):US:=stL 42 [(2,D7 a),(3,D8 b)]
def dl (b:GM)(a:Int):US:=stL 42 [(0,D9 b),(4,D7 a)]
abbrev fv:US→Exit→US→Prop:=Round E 50 (aI Try.f50 0)
def pv (a:GM)(v4 v5:Int):kT→Prop| .ret b c=>Loops E 50 (aI Try.f50 0) (cE a v4 v5) .ret (dW b c)| .x0 d=>Loops E 50 (aI Try.f50 0) (cE a v4 v5) (.exit 0) (dl a d)
noncomputable def dS (a:GM):List Int→Nat→Int→Option kT|[],i,v4=>some (.x0 v4)|hd::rest,i,v4=>cond (decide (hd<(48:Int))) (some (.ret 0 false)) (cond (decide (hd>(57:Int))) (some (.ret 0 false)) (dS a rest (i+1) (IntKind.wrap .i64 ((IntKind.wrap .i64 ((IntKind.wrap .i64 ((10:Int)*v4))+(IntKind.wrap .i64 hd)))-(48:Int)))))
theorem pu (a:GM)(rest:List Int):∀(i:Nat)(v4:Int),(dI a).drop i=rest→a.size≤9223372036854775807→Ans (dS a rest i v4) (pv a v4 (i:Int)):=by
 induction rest with
 |nil =>intro i v4 b d;have hb:=zq b;unfold dS;exact DL (DN (show fv (cE a v4 (i:Int)) (.exit 0) (dl a v4)from RP [.b false] (AC hb<|AN)))
 |cons hd rest h =>
  intro i v4 b d;have hb:=ye b;have j:=yf b d;have e:=cO b;have c:=Ab b;obtain rfl:=Aa b;unfold dS;apply DO<;>intro f
  ·exact DL (DN (show fv (cE a v4 (i:Int)) .ret (dW 0 false)from RP [.b true,.b true] (AC hb<|AC c<|AC f<|AN)))
  ·apply DO<;>intro g
   ·exact DL (DN (show fv (cE a v4 (i:Int)) .ret (dW 0 false)from RP [.b true,.b false,.b true] (AC hb<|AC c<|AC f<|AC c<|AC g<|AN)))
   ·exact(h (i+1) (IntKind.wrap .i64 ((IntKind.wrap .i64 ((IntKind.wrap .i64 ((10:Int)*v4))+(IntKind.wrap .i64 (fW a (i:Int)))))-(48:Int))) e d).mono fun y k=>by have r:fv (cE a v4 (i:Int)) .normal (cE a (IntKind.wrap .i64 ((IntKind.wrap .i64 ((IntKind.wrap .i64 ((10:Int)*v4))+(IntKind.wrap .i64 (fW a (i:Int)))))-(48:Int))) (inc (i:Int))):=RP [.b true,.b false,.b false] (AC hb<|AC c<|AC f<|AC c<|AC g<|AC c<|AN);rw[j]at r;cases y<;>exact DM r k
noncomputable def bi (b:GM):Option (Int×Bool):=
  cond (decide ((b.size:Int)>(10:Int)))
   (some (0,false))
   (if b.size≤9223372036854775807 then(dS b (dI b) 0 0).bind fun y=>match y with
    | .ret c d=>(some (c,d))
    | .x0 a=>(cond (decide (a>(1000000000:Int)))
     (some (0,false))
     (if gV a=some (jm a)then cond (!((jm a).toList==b.toList))
      (some (0,false))
      (some (a,true))else none))else none)
theorem qm (x0:GM):Ans (bi x0) (fun r=>Does E 50 [D9 x0] [DZ r.1,D5 r.2]):=by
 unfold bi;apply DO<;>intro b
 ·exact DL (DP Try.f50 [.b true] (AC b<|AN))
 ·apply DR;intro g;apply DQ;intro y f;replace f:=pu x0 (dI x0) 0 0 rfl g y f;cases y with
  |ret c d =>have e:=f;exact DL (DP Try.f50 [.b false,.lp .ret (dW c d)] (AC b<|AL e<|AN))
  |x0 a =>
   have e:=f;apply DO<;>intro h
   ·exact DL (DP Try.f50 [.b false,.lp (.exit 0) (dl x0 a),.b true] (AC b<|AL e<|AC h<|AN))
   ·apply DR;intro i;apply DO<;>intro j
    ·exact DL (DP Try.f50 [.b false,.lp (.exit 0) (dl x0 a),.b false,.ret [D6 (jm a)],.b true] (AC b<|AL e<|AC h<|AD (oC a i)<|AC j<|AN))
    ·exact DL (DP Try.f50 [.b false,.lp (.exit 0) (dl x0 a),.b false,.ret [D6 (jm a)],.b false] (AC b<|AL e<|AC h<|AD (oC a i)<|AC j<|AN))
noncomputable def aj (x:GM):Int×Bool:=(bi x).getD (0,false)
theorem iH (a:GM)(h:bi a=some (aj a)):Does E 50 [D9 a] [DZ ((aj a).1),D5 ((aj a).2)]:=by exact qm a _ h
theorem an (a:GM)(h:bi a=some (aj a)){c:Bool}(b:(aj a).2=c):Does E 50 [D9 a] [DZ ((aj a).1),D5 c]:=by rw[←b];exact iH a h
noncomputable def kV (b:GM)(d e:Int):Option (Int×Int×Int×Bool):=cond (b.toList==(⟨#[42]⟩:GM).toList) (some (d,e,1,true)) (cond (decide ((b.size:Int)>(2:Int))) (if 0≤(0:Int)∧(0:Int)≤(2:Int)∧(2:Int)≤(b.size:Int)then cond ((b.extract (0:Int).toNat (2:Int).toNat).toList==(⟨#[42,47]⟩:GM).toList) (if 0≤(2:Int)∧(2:Int)≤(b.size:Int)∧(b.size:Int)≤(b.size:Int)then if bi (b.extract (2:Int).toNat (b.size:Int).toNat)=some (aj (b.extract (2:Int).toNat (b.size:Int).toNat))then cond ((aj (b.extract (2:Int).toNat (b.size:Int).toNat)).2) (some (d,e,(aj (b.extract (2:Int).toNat (b.size:Int).toNat)).1,decide (((aj (b.extract (2:Int).toNat (b.size:Int).toNat)).1)≥(1:Int)))) (some (d,e,(aj (b.extract (2:Int).toNat (b.size:Int).toNat)).1,false))else none else none) (if b.size≤2000000 then if 0≤(45:Int)∧(45:Int)<256 then(ba (ag b 45) 0).bind fun a=>if bi a=some (aj a)then cond ((aj a).2) (cond (((ag b 45).length:Int)==(2:Int)) ((ba (ag b 45) 1).bind fun c=>if bi c=some (aj c)then cond ((aj c).2) (cond (decide (((ag b 45).length:Int)≤(2:Int))) (cond (decide (d≤((aj a).1))) (cond (decide (((aj a).1)≤((aj c).1))) (some ((aj a).1,(aj c).1,1,decide (((aj c).1)≤e))) (some ((aj a).1,(aj c).1,1,false))) (some ((aj a).1,(aj c).1,1,false))) (some ((aj a).1,(aj c).1,1,false))) (some ((aj a).1,(aj c).1,1,false))else none) (cond (decide (((ag b 45).length:Int)≤(2:Int))) (cond (decide (d≤((aj a).1))) (cond (decide (((aj a).1)≤((aj a).1))) (some ((aj a).1,(aj a).1,1,decide (((aj a).1)≤e))) (some ((aj a).1,(aj a).1,1,false))) (some ((aj a).1,(aj a).1,1,false))) (some ((aj a).1,(aj a).1,1,false)))) (cond (((ag b 45).length:Int)==(2:Int)) ((ba (ag b 45) 1).bind fun c=>if bi c=some (aj c)then some ((aj a).1,(aj c).1,1,false)else none) (some ((aj a).1,(aj a).1,1,false)))else none else none else none)else none) (if b.size≤2000000 then if 0≤(45:Int)∧(45:Int)<256 then(ba (ag b 45) 0).bind fun a=>if bi a=some (aj a)then cond ((aj a).2) (cond (((ag b 45).length:Int)==(2:Int)) ((ba (ag b 45) 1).bind fun c=>if bi c=some (aj c)then cond ((aj c).2) (cond (decide (((ag b 45).length:Int)≤(2:Int))) (cond (decide (d≤((aj a).1))) (cond (decide (((aj a).1)≤((aj c).1))) (some ((aj a).1,(aj c).1,1,decide (((aj c).1)≤e))) (some ((aj a).1,(aj c).1,1,false))) (some ((aj a).1,(aj c).1,1,false))) (some ((aj a).1,(aj c).1,1,false))) (some ((aj a).1,(aj c).1,1,false))else none) (cond (decide (((ag b 45).length:Int)≤(2:Int))) (cond (decide (d≤((aj a).1))) (cond (decide (((aj a).1)≤((aj a).1))) (some ((aj a).1,(aj a).1,1,decide (((aj a).1)≤e))) (some ((aj a).1,(aj a).1,1,false))) (some ((aj a).1,(aj a).1,1,false))) (some ((aj a).1,(aj a).1,1,false)))) (cond (((ag b 45).length:Int)==(2:Int)) ((ba (ag b 45) 1).bind fun c=>if bi c=some (aj c)then some ((aj a).1,(aj c).1,1,false)else none) (some ((aj a).1,(aj a).1,1,false)))else none else none else none))
theorem up (a:GM)(u v:Int):Ans (kV a u v) (fun r=>Does E 42 [D9 a,D7 u,D7 v] [DZ r.1,DZ r.2.1,DZ r.2.2.1,D5 r.2.2.2]):=by
 unfold kV;apply DO<;>intro i
 ·exact DL (DP Try.f42 [.b true] (AC i<|AN))
 ·apply DO<;>intro m
  ·apply DR;intro j;apply DO<;>intro k
   ·apply DR;intro f;apply DR;intro g;apply DO<;>intro h
    ·exact DL (DP Try.f42 [.b false,.b true,.b true,.ret [DZ ((aj (a.extract (2:Int).toNat (a.size:Int).toNat)).1),D5 true]] (AC i<|AC m<|AC j<|AC k<|AC f<|AD (an (a.extract (2:Int).toNat (a.size:Int).toNat) g h)<|AN))
    ·exact DL (DP Try.f42 [.b false,.b true,.b true,.ret [DZ ((aj (a.extract (2:Int).toNat (a.size:Int).toNat)).1),D5 false]] (AC i<|AC m<|AC j<|AC k<|AC f<|AD (an (a.extract (2:Int).toNat (a.size:Int).toNat) g h)<|AN))
   ·apply DR;intro f;apply DR;intro g;apply DQ;intro b h;apply DR;intro n;apply DO<;>intro o
    ·apply DO<;>intro p
     ·apply DQ;intro d c;apply DR;intro e;apply DO<;>intro l
      ·apply DO<;>intro q
       ·apply DO<;>intro s
        ·apply DO<;>intro t
         ·exact DL (DP Try.f42 [.b false,.b true,.b false,.ret [(false,[Ec 1 ((ag a 45).map etS)])],.row (etS b),.ret [DZ ((aj b).1),D5 true],Ea ((ag a 45).length:Int),.b true,.row (etS d),.ret [DZ ((aj d).1),D5 true],Ea ((ag a 45).length:Int),.b true,.b true,.b true] (AC i<|AC m<|AC j<|AC k<|AD (aH a 45 f g)<|AG etS h<|AD (an b n o)<|ALn (ag a 45) etS<|AC p<|AG etS c<|AD (an d e l)<|ALn (ag a 45) etS<|AC q<|AC s<|AC t<|AN))
         ·exact DL (DP Try.f42 [.b false,.b true,.b false,.ret [(false,[Ec 1 ((ag a 45).map etS)])],.row (etS b),.ret [DZ ((aj b).1),D5 true],Ea ((ag a 45).length:Int),.b true,.row (etS d),.ret [DZ ((aj d).1),D5 true],Ea ((ag a 45).length:Int),.b true,.b true,.b false] (AC i<|AC m<|AC j<|AC k<|AD (aH a 45 f g)<|AG etS h<|AD (an b n o)<|ALn (ag a 45) etS<|AC p<|AG etS c<|AD (an d e l)<|ALn (ag a 45) etS<|AC q<|AC s<|AC t<|AN))
        ·exact DL (DP Try.f42 [.b false,.b true,.b false,.ret [(false,[Ec 1 ((ag a 45).map etS)])],.row (etS b),.ret [DZ ((aj b).1),D5 true],Ea ((ag a 45).length:Int),.b true,.row (etS d),.ret [DZ ((aj d).1),D5 true],Ea ((ag a 45).length:Int),.b true,.b false] (AC i<|AC m<|AC j<|AC k<|AD (aH a 45 f g)<|AG etS h<|AD (an b n o)<|ALn (ag a 45) etS<|AC p<|AG etS c<|AD (an d e l)<|ALn (ag a 45) etS<|AC q<|AC s<|AN))
       ·exact DL (DP Try.f42 [.b false,.b true,.b false,.ret [(false,[Ec 1 ((ag a 45).map etS)])],.row (etS b),.ret [DZ ((aj b).1),D5 true],Ea ((ag a 45).length:Int),.b true,.row (etS d),.ret [DZ ((aj d).1),D5 true],Ea ((ag a 45).length:Int),.b false] (AC i<|AC m<|AC j<|AC k<|AD (aH a 45 f g)<|AG etS h<|AD (an b n o)<|ALn (ag a 45) etS<|AC p<|AG etS c<|AD (an d e l)<|ALn (ag a 45) etS<|AC q<|AN))
      ·exact DL (DP Try.f42 [.b false,.b true,.b false,.ret [(false,[Ec 1 ((ag a 45).map etS)])],.row (etS b),.ret [DZ ((aj b).1),D5 true],Ea ((ag a 45).length:Int),.b true,.row (etS d),.ret [DZ ((aj d).1),D5 false]] (AC i<|AC m<|AC j<|AC k<|AD (aH a 45 f g)<|AG etS h<|AD (an b n o)<|ALn (ag a 45) etS<|AC p<|AG etS c<|AD (an d e l)<|AN))
     ·apply DO<;>intro c
      ·apply DO<;>intro e
       ·apply DO<;>intro l
        ·exact DL (DP Try.f42 [.b false,.b true,.b false,.ret [(false,[Ec 1 ((ag a 45).map etS)])],.row (etS b),.ret [DZ ((aj b).1),D5 true],Ea ((ag a 45).length:Int),.b false,Ea ((ag a 45).length:Int),.b true,.b true,.b true] (AC i<|AC m<|AC j<|AC k<|AD (aH a 45 f g)<|AG etS h<|AD (an b n o)<|ALn (ag a 45) etS<|AC p<|ALn (ag a 45) etS<|AC c<|AC e<|AC l<|AN))
        ·exact DL (DP Try.f42 [.b false,.b true,.b false,.ret [(false,[Ec 1 ((ag a 45).map etS)])],.row (etS b),.ret [DZ ((aj b).1),D5 true],Ea ((ag a 45).length:Int),.b false,Ea ((ag a 45).length:Int),.b true,.b true,.b false] (AC i<|AC m<|AC j<|AC k<|AD (aH a 45 f g)<|AG etS h<|AD (an b n o)<|ALn (ag a 45) etS<|AC p<|ALn (ag a 45) etS<|AC c<|AC e<|AC l<|AN))
       ·exact DL (DP Try.f42 [.b false,.b true,.b false,.ret [(false,[Ec 1 ((ag a 45).map etS)])],.row (etS b),.ret [DZ ((aj b).1),D5 true],Ea ((ag a 45).length:Int),.b false,Ea ((ag a 45).length:Int),.b true,.b false] (AC i<|AC m<|AC j<|AC k<|AD (aH a 45 f g)<|AG etS h<|AD (an b n o)<|ALn (ag a 45) etS<|AC p<|ALn (ag a 45) etS<|AC c<|AC e<|AN))
      ·exact DL (DP Try.f42 [.b false,.b true,.b false,.ret [(false,[Ec 1 ((ag a 45).map etS)])],.row (etS b),.ret [DZ ((aj b).1),D5 true],Ea ((ag a 45).length:Int),.b false,Ea ((ag a 45).length:Int),.b false] (AC i<|AC m<|AC j<|AC k<|AD (aH a 45 f g)<|AG etS h<|AD (an b n o)<|ALn (ag a 45) etS<|AC p<|ALn (ag a 45) etS<|AC c<|AN))
    ·apply DO<;>intro p
     ·apply DQ;intro d c;apply DR;intro e;exact DL (DP Try.f42 [.b false,.b true,.b false,.ret [(false,[Ec 1 ((ag a 45).map etS)])],.row (etS b),.ret [DZ ((aj b).1),D5 false],Ea ((ag a 45).length:Int),.b true,.row (etS d),.ret [DZ ((aj d).1),D5 ((aj d).2)]] (AC i<|AC m<|AC j<|AC k<|AD (aH a 45 f g)<|AG etS h<|AD (an b n o)<|ALn (ag a 45) etS<|AC p<|AG etS c<|AD (iH d e)<|AN))
     ·exact DL (DP Try.f42 [.b false,.b true,.b false,.ret [(false,[Ec 1 ((ag a 45).map etS)])],.row (etS b),.ret [DZ ((aj b).1),D5 false],Ea ((ag a 45).length:Int),.b false] (AC i<|AC m<|AC j<|AC k<|AD (aH a 45 f g)<|AG etS h<|AD (an b n o)<|ALn (ag a 45) etS<|AC p<|AN))
  ·apply DR;intro j;apply DR;intro k;apply DQ;intro b f;apply DR;intro g;apply DO<;>intro h
   ·apply DO<;>intro n
    ·apply DQ;intro d o;apply DR;intro p;apply DO<;>intro c
     ·apply DO<;>intro e
      ·apply DO<;>intro l
       ·apply DO<;>intro q
        ·exact DL (DP Try.f42 [.b false,.b false,.ret [(false,[Ec 1 ((ag a 45).map etS)])],.row (etS b),.ret [DZ ((aj b).1),D5 true],Ea ((ag a 45).length:Int),.b true,.row (etS d),.ret [DZ ((aj d).1),D5 true],Ea ((ag a 45).length:Int),.b true,.b true,.b true] (AC i<|AC m<|AD (aH a 45 j k)<|AG etS f<|AD (an b g h)<|ALn (ag a 45) etS<|AC n<|AG etS o<|AD (an d p c)<|ALn (ag a 45) etS<|AC e<|AC l<|AC q<|AN))
        ·exact DL (DP Try.f42 [.b false,.b false,.ret [(false,[Ec 1 ((ag a 45).map etS)])],.row (etS b),.ret [DZ ((aj b).1),D5 true],Ea ((ag a 45).length:Int),.b true,.row (etS d),.ret [DZ ((aj d).1),D5 true],Ea ((ag a 45).length:Int),.b true,.b true,.b false] (AC i<|AC m<|AD (aH a 45 j k)<|AG etS f<|AD (an b g h)<|ALn (ag a 45) etS<|AC n<|AG etS o<|AD (an d p c)<|ALn (ag a 45) etS<|AC e<|AC l<|AC q<|AN))
       ·exact DL (DP Try.f42 [.b false,.b false,.ret [(false,[Ec 1 ((ag a 45).map etS)])],.row (etS b),.ret [DZ ((aj b).1),D5 true],Ea ((ag a 45).length:Int),.b true,.row (etS d),.ret [DZ ((aj d).1),D5 true],Ea ((ag a 45).length:Int),.b true,.b false] (AC i<|AC m<|AD (aH a 45 j k)<|AG etS f<|AD (an b g h)<|ALn (ag a 45) etS<|AC n<|AG etS o<|AD (an d p c)<|ALn (ag a 45) etS<|AC e<|AC l<|AN))
      ·exact DL (DP Try.f42 [.b false,.b false,.ret [(false,[Ec 1 ((ag a 45).map etS)])],.row (etS b),.ret [DZ ((aj b).1),D5 true],Ea ((ag a 45).length:Int),.b true,.row (etS d),.ret [DZ ((aj d).1),D5 true],Ea ((ag a 45).length:Int),.b false] (AC i<|AC m<|AD (aH a 45 j k)<|AG etS f<|AD (an b g h)<|ALn (ag a 45) etS<|AC n<|AG etS o<|AD (an d p c)<|ALn (ag a 45) etS<|AC e<|AN))
     ·exact DL (DP Try.f42 [.b false,.b false,.ret [(false,[Ec 1 ((ag a 45).map etS)])],.row (etS b),.ret [DZ ((aj b).1),D5 true],Ea ((ag a 45).length:Int),.b true,.row (etS d),.ret [DZ ((aj d).1),D5 false]] (AC i<|AC m<|AD (aH a 45 j k)<|AG etS f<|AD (an b g h)<|ALn (ag a 45) etS<|AC n<|AG etS o<|AD (an d p c)<|AN))
    ·apply DO<;>intro o
     ·apply DO<;>intro p
      ·apply DO<;>intro c
       ·exact DL (DP Try.f42 [.b false,.b false,.ret [(false,[Ec 1 ((ag a 45).map etS)])],.row (etS b),.ret [DZ ((aj b).1),D5 true],Ea ((ag a 45).length:Int),.b false,Ea ((ag a 45).length:Int),.b true,.b true,.b true] (AC i<|AC m<|AD (aH a 45 j k)<|AG etS f<|AD (an b g h)<|ALn (ag a 45) etS<|AC n<|ALn (ag a 45) etS<|AC o<|AC p<|AC c<|AN))
       ·exact DL (DP Try.f42 [.b false,.b false,.ret [(false,[Ec 1 ((ag a 45).map etS)])],.row (etS b),.ret [DZ ((aj b).1),D5 true],Ea ((ag a 45).length:Int),.b false,Ea ((ag a 45).length:Int),.b true,.b true,.b false] (AC i<|AC m<|AD (aH a 45 j k)<|AG etS f<|AD (an b g h)<|ALn (ag a 45) etS<|AC n<|ALn (ag a 45) etS<|AC o<|AC p<|AC c<|AN))
      ·exact DL (DP Try.f42 [.b false,.b false,.ret [(false,[Ec 1 ((ag a 45).map etS)])],.row (etS b),.ret [DZ ((aj b).1),D5 true],Ea ((ag a 45).length:Int),.b false,Ea ((ag a 45).length:Int),.b true,.b false] (AC i<|AC m<|AD (aH a 45 j k)<|AG etS f<|AD (an b g h)<|ALn (ag a 45) etS<|AC n<|ALn (ag a 45) etS<|AC o<|AC p<|AN))
     ·exact DL (DP Try.f42 [.b false,.b false,.ret [(false,[Ec 1 ((ag a 45).map etS)])],.row (etS b),.ret [DZ ((aj b).1),D5 true],Ea ((ag a 45).length:Int),.b false,Ea ((ag a 45).length:Int),.b false] (AC i<|AC m<|AD (aH a 45 j k)<|AG etS f<|AD (an b g h)<|ALn (ag a 45) etS<|AC n<|ALn (ag a 45) etS<|AC o<|AN))
   ·apply DO<;>intro n
    ·apply DQ;intro d o;apply DR;intro p;exact DL (DP Try.f42 [.b false,.b false,.ret [(false,[Ec 1 ((ag a 45).map etS)])],.row (etS b),.ret [DZ ((aj b).1),D5 false],Ea ((ag a 45).length:Int),.b true,.row (etS d),.ret [DZ ((aj d).1),D5 ((aj d).2)]] (AC i<|AC m<|AD (aH a 45 j k)<|AG etS f<|AD (an b g h)<|ALn (ag a 45) etS<|AC n<|AG etS o<|AD (iH d p)<|AN))
    ·exact DL (DP Try.f42 [.b false,.b false,.ret [(false,[Ec 1 ((ag a 45).map etS)])],.row (etS b),.ret [DZ ((aj b).1),D5 false],Ea ((ag a 45).length:Int),.b false] (AC i<|AC m<|AD (aH a 45 j k)<|AG etS f<|AD (an b g h)<|ALn (ag a 45) etS<|AC n<|AN))
def bh (_:GM)(a b:Int):Int×Int×Int×Bool:=(a,b,1,true)
theorem sH (a:GM)(b:Int)(c:Int)(h:a=(⟨#[42]⟩:GM)):Does E 42 [D9 a,D7 b,D7 c] [DZ ((bh a b c).1),DZ ((bh a b c).2.1),DZ ((bh a b c).2.2.1),D5 ((bh a b c).2.2.2)]:=by subst h;exact up _ b c _ (by unfold kV;rw[F2,EG];rfl)
theorem lK (a:GM)(b:Int)(c:Int)(h:a=(⟨#[42]⟩:GM)){e:Bool}(d:(bh a b c).2.2.2=e):Does E 42 [D9 a,D7 b,D7 c] [DZ ((bh a b c).1),DZ ((bh a b c).2.1),DZ ((bh a b c).2.2.1),D5 e]:=by rw[←d];exact sH a b c h
inductive m8 where|x4 (v16:List Int)
def ea (v2:Int)(v8:List Bool)(v16:List Int)(a:Int):US:=stL 70 [(2,D7 v2),(8,.one (Ec 1 (v8.map etB))),(16,.one (Ec 1 (v16.map etI))),(17,D7 a)]
def ja (a:List Int):US:=stL 70 [(16,.one (Ec 1 (a.map etI)))]
abbrev ke:US→Exit→US→Prop:=Round E 31 (aI Try.f31 2)
def se (v2:Int)(v8:List Bool)(v16:List Int)(b:Int):m8→Prop| .x4 a=>Loops E 31 (aI Try.f31 2) (ea v2 v8 v16 b) (.exit 4) (ja a)
noncomputable def c5 (v2:Int)(v8:List Bool):Nat→(List Int)→Int→Option m8| 0,_,_=>none|n+1,v16,a=>cond (decide (a≤v2)) ((ba v8 a).bind fun b=>cond (b) (if(v16.length+([a]).length)*8≤140737488355328∧v16.length+([a]).length≤4611686018427387904 then c5 v2 v8 n (v16++([a])) (inc a)else none) (c5 v2 v8 n v16 (inc a))) (some (.x4 v16))
theorem r9 (v2:Int)(v8:List Bool)(n:Nat):∀(v16:List Int)(a:Int),Ans (c5 v2 v8 n v16 a) (se v2 v8 v16 a):=by
 induction n with
 |zero=>intros;exact Ans.none
 |succ n e =>
  intro v16 a;unfold c5;apply DO<;>intro c
  ·apply DQ;intro f b;apply DO<;>intro g
   ·apply DR;intro h;have r:ke (ea v2 v8 v16 a) .normal (ea v2 v8 (v16++([a])) (inc a)):=RP [.b true,.row ([tB true]),.rows ((v16++([a])).map etI)] (AC c<|AC (p:=0≤a∧a<((v8.map etB).length:Int)) (pX b)<|AC (p:=(v8.map etB)[0+a.toNat]?=some ([tB true])) ((lY b).trans (FP some (show [tB f]=[tB true] by rw[g])))<|AAp etI (fun _=>rfl) h<|AN);exact(e (v16++([a])) (inc a)).mono fun y d=>by cases y<;>exact DM r d
   ·have r:ke (ea v2 v8 v16 a) .normal (ea v2 v8 v16 (inc a)):=RP [.b true,.row ([tB false])] (AC c<|AC (p:=0≤a∧a<((v8.map etB).length:Int)) (pX b)<|AC (p:=(v8.map etB)[0+a.toNat]?=some ([tB false])) ((lY b).trans (FP some (show [tB f]=[tB false] by rw[g])))<|AN);exact(e v16 (inc a)).mono fun y d=>by cases y<;>exact DM r d
  ·exact DL (DN (show ke (ea v2 v8 v16 a) (.exit 4) (ja v16)from RP [.b false] (AC c<|AN)))
inductive m7 where|x2 (v8:List Bool)
def ib (d v2:Int)(v8:List Bool)(v9:List GM)(v10 a b c:Int):US:=stL 70 [(1,D7 d),(2,D7 v2),(8,.one (Ec 1 (v8.map etB))),(9,.one (Ec 1 (v9.map etS))),(10,D7 v10),(12,D7 a),(13,D7 b),(15,D7 c)]
def i9 (b v2:Int)(v9:List GM)(v10:Int)(a:List Bool):US:=stL 70 [(1,D7 b),(2,D7 v2),(8,.one (Ec 1 (a.map etB))),(9,.one (Ec 1 (v9.map etS))),(10,D7 v10)]
abbrev mY:US→Exit→US→Prop:=Round E 31 (aI Try.f31 1)
def sb (e v2:Int)(v8:List Bool)(v9:List GM)(v10 a b c:Int):m7→Prop| .x2 d=>Loops E 31 (aI Try.f31 1) (ib e v2 v8 v9 v10 a b c) (.exit 2) (i9 e v2 v9 v10 d)
noncomputable def c4 (b c:Int):Nat→(List Bool)→Int→Option m7| 0,_,_=>none|n+1,v8,a=>cond (decide (a≤b)) ((ba v8 a).bind fun d=>c4 b c n (v8.set a.toNat true) (IntKind.wrap .i64 (a+c))) (some (.x2 v8))
theorem r8 (d v2:Int)(v9:List GM)(v10 c b:Int)(n:Nat):∀(v8:List Bool)(a:Int),Ans (c4 c b n v8 a) (sb d v2 v8 v9 v10 c b a):=by
 induction n with
 |zero=>intros;exact Ans.none
 |succ n g =>
  intro v8 a;unfold c4;apply DO<;>intro e
  ·apply DQ;intro f h;have r:mY (ib d v2 v8 v9 v10 c b a) .normal (ib d v2 (v8.set a.toNat true) v9 v10 c b (IntKind.wrap .i64 (a+b))):=RP [.b true,.row (etB f),.rows ((v8.set a.toNat true).map etB)] (AC e<|AG etB h<|AC (p:=(v8.map etB).set (0+a.toNat) (ao (etB f) 0 [tB true])=(v8.set a.toNat true).map etB) (gn (by rfl))<|AN);exact(g (v8.set a.toNat true) (IntKind.wrap .i64 (a+b))).mono fun y i=>by cases y<;>exact DM r i
  ·exact DL (DN (show mY (ib d v2 v8 v9 v10 c b a) (.exit 2) (i9 d v2 v9 v10 v8)from RP [.b false] (AC e<|AN)))
inductive mZ where|ret (v6:List Int) (v7:Bool)|x0 (v8:List Bool)
def d9 (a v2:Int)(v8:List Bool)(v9:List GM)(v10:Int):US:=stL 70 [(1,D7 a),(2,D7 v2),(8,.one (Ec 1 (v8.map etB))),(9,.one (Ec 1 (v9.map etS))),(10,D7 v10)]
def it (a:List Int)(b:Bool):US:=stL 70 [(6,.one (Ec 1 (a.map etI))),(7,D8 b)]
def i8 (b v2:Int)(a:List Bool):US:=stL 70 [(1,D7 b),(2,D7 v2),(8,.one (Ec 1 (a.map etB)))]
abbrev kb:US→Exit→US→Prop:=Round E 31 (aI Try.f31 0)
def sa (a v2:Int)(v8:List Bool)(v9:List GM)(v10:Int):mZ→Prop| .ret b c=>Loops E 31 (aI Try.f31 0) (d9 a v2 v8 v9 v10) .ret (it b c)| .x0 d=>Loops E 31 (aI Try.f31 0) (d9 a v2 v8 v9 v10) (.exit 0) (i8 a v2 d)
noncomputable def cZ (a v2:Int):List GM→Nat→(List Bool)→Option mZ
 |[],i,v8=>some (.x0 v8)
 |hd::rest,i,v8=>if hd=(⟨#[42]⟩:GM)then cond ((bh hd a v2).2.2.2)
  ((c4 ((bh hd a v2).2.1) ((bh hd a v2).2.2.1) 9223372036854775808 v8 ((bh hd a v2).1)).bind fun y=>match y with
   | .x2 b=>(cZ a v2 rest (i+1) b))
  (some (.ret ([]) false))else none
theorem r7 (a v2:Int)(v9:List GM)(rest:List GM):∀(i:Nat)(v8:List Bool),(v9).drop i=rest→v9.length≤9223372036854775807→Ans (cZ a v2 rest i v8) (sa a v2 v8 v9 (i:Int)):=by
 induction rest with
 |nil =>intro i v8 c e;have hb:=eL c;unfold cZ;exact DL (DN (show kb (d9 a v2 v8 v9 (i:Int)) (.exit 0) (i8 a v2 v8)from RP [Ea (v9.length:Int),.b false] (ALn v9 etS<|AC hb<|AN)))
 |cons hd rest k =>
  intro i v8 c e;have hb:=dL c;have l:=dM c e;have f:=cO c;have g:=eM c;unfold cZ;apply DR;intro h;apply DO<;>intro j
  ·apply DQ;intro y d;replace d:=r8 a v2 v9 (i:Int) ((bh hd a v2).2.1) ((bh hd a v2).2.2.1) 9223372036854775808 v8 ((bh hd a v2).1) y d;cases y with
   |x2 b =>have m:=d;exact(k (i+1) b f e).mono fun y d=>by have r:kb (d9 a v2 v8 v9 (i:Int)) .normal (d9 a v2 b v9 (inc (i:Int))):=RP [Ea (v9.length:Int),.b true,.row (etS hd),.ret [DZ ((bh hd a v2).1),DZ ((bh hd a v2).2.1),DZ ((bh hd a v2).2.2.1),D5 true],.lp (.exit 2) (i9 a v2 v9 (i:Int) b)] (ALn v9 etS<|AC hb<|AG etS g<|AD (lK hd a v2 h j)<|AL m<|AN);rw[l]at r;cases y<;>exact DM r d
  ·exact DL (DN (show kb (d9 a v2 v8 v9 (i:Int)) .ret (it ([]) false)from RP [Ea (v9.length:Int),.b true,.row (etS hd),.ret [DZ ((bh hd a v2).1),DZ ((bh hd a v2).2.1),DZ ((bh hd a v2).2.2.1),D5 false]] (ALn v9 etS<|AC hb<|AG etS g<|AD (lK hd a v2 h j)<|AN)))
noncomputable def eX (f:GM)(g a:Int):Option ((List Int)×Bool):=
  if 0≤(inc a)∧(inc a)≤(inc a)∧((1:Nat):Int)*(inc a)≤281474976710656∧(inc a)≤4611686018427387904 then if f.size≤2000000 then if 0≤(44:Int)∧(44:Int)<256 then if(ag f 44).length≤9223372036854775807 then(cZ g a (ag f 44) 0 (List.replicate (inc a).toNat false)).bind fun y=>match y with
   | .ret c d=>(some (c,d))
   | .x0 e=>((c5 a e 9223372036854775808 ([]) g).bind fun y=>match y with
    | .x4 b=>(some (b,true)))else none else none else none else none
theorem um (x0:GM)(e a:Int):Ans (eX x0 e a) (fun r=>Does E 31 [D9 x0,D7 e,D7 a] [(false,[Ec 1 (r.1.map etI)]),D5 r.2]):=by
 unfold eX;apply DR;intro j;apply DR;intro k;apply DR;intro l;apply DR;intro h;apply DQ;intro y b;replace b:=r7 e a (ag x0 44) (ag x0 44) 0 (List.replicate (inc a).toNat false) rfl h y b;cases y with
 |ret f g =>have i:=b;exact DL (DP Try.f31 [.rows ((List.replicate (inc a).toNat false).map etB),.ret [(false,[Ec 1 ((ag x0 44).map etS)])],.lp .ret (it f g)] (AC j<|AC (p:=List.replicate (inc a).toNat [tB false]=(List.replicate (inc a).toNat false).map etB) (qg rfl)<|AD (aH x0 44 k l)<|AL i<|AN))
 |x0 c =>
  have i:=b;apply DQ;intro y b;replace b:=r9 a c 9223372036854775808 ([]) e y b;cases y with
  |x4 d =>have m:=b;exact DL (DP Try.f31 [.rows ((List.replicate (inc a).toNat false).map etB),.ret [(false,[Ec 1 ((ag x0 44).map etS)])],.lp (.exit 0) (i8 e a c),.lp (.exit 4) (ja d)] (AC j<|AC (p:=List.replicate (inc a).toNat [tB false]=(List.replicate (inc a).toNat false).map etB) (qg rfl)<|AD (aH x0 44 k l)<|AL i<|AL m<|AN))
theorem th (b:Int)(hb:b≤59):∀(m n:Nat)(v:List Bool)(x:Int),(b+1-x).toNat=m→m<n→0≤x→(v.length:Int)=b+1→∃l,c4 b 1 n v x=some (.x2 l)∧(l.length:Int)=b+1
 |m,0,v,x,_,c,_,_=>by omega
 | 0,n+1,v,x,d,_,_,a=>by unfold c4;rw[EA (by omega),EP];exact⟨v,rfl,a⟩
 |m+1,n+1,v,x,d,c,j,a=>by have e:IntKind.wrap .i64 (x+1)=x+1:=aF _ (by omega) (by omega);obtain⟨g,f,_⟩:=lX (l:=v) (k:=x) (by omega);obtain⟨l,h,i⟩:=th b hb m n (v.set x.toNat true) (x+1) (by omega) (by omega) (by omega) (by rw[Gn];omega);unfold c4;rw[EC (by omega),EG,f,Eg,e,h];exact⟨l,rfl,i⟩
theorem pi (b:Int)(hb:b≤59)(w:List Bool)(c:(w.length:Int)=b+1):∀(m n:Nat)(v:List Int)(x:Int),(b+1-x).toNat=m→m<n→0≤x→v.length+m≤1000→∃l,c5 b w n v x=some (.x4 l)∧l.length≤v.length+m
 |m,0,v,x,_,e,_,_=>by omega
 | 0,n+1,v,x,f,_,_,_=>by unfold c5;rw[EA (by omega),EP];exact⟨v,rfl,EQ _⟩
 |m+1,n+1,v,x,f,e,i,j=>by
  have hi:inc x=x+1:=dP x (by omega) (by omega);obtain⟨g,h,_⟩:=lX (l:=w) (k:=x) (by omega);unfold c5;rw[EC (by omega),EG,h,Eg,hi];cases g with
  |true =>obtain⟨l,a,d⟩:=pi b hb w c m n (v++[x]) (x+1) (by omega) (by omega) (by omega) (by rw[Fo,E2];omega);rw[Fo,E2]at d;rw[EG,Ej (by rw[E2];omega),a];exact⟨l,rfl,by omega⟩
  |false =>obtain⟨l,a,d⟩:=pi b hb w c m n v (x+1) (by omega) (by omega) (by omega) (by omega);rw[EP,a];exact⟨l,rfl,by omega⟩
noncomputable def ac (s:GM)(a b:Int):List Int×Bool:=(eX s a b).getD ([],false)
theorem xv:ag ⟨#[42]⟩ 44=[⟨#[42]⟩]:=rfl
theorem jo (a b:Int)(h:0≤a∧a≤b∧b≤59):eX ⟨#[42]⟩ a b=some (ac ⟨#[42]⟩ a b)∧(ac ⟨#[42]⟩ a b).1.length≤1000:=by
 have e:∃r,eX ⟨#[42]⟩ a b=some r∧r.1.length≤1000:=by
  have hi:inc b=b+1:=dP b (by omega) (by omega);obtain⟨w,d,f⟩:=th b h.2.2 (b+1-a).toNat 9223372036854775808 (List.replicate (b+1).toNat false) a rfl (by omega) h.1 (by rw[List.length_replicate];omega);obtain⟨l,g,i⟩:=pi b h.2.2 w f (b+1-a).toNat 9223372036854775808 [] a rfl (by omega) h.1 (by simp;omega);have j:0≤b+1∧b+1≤b+1∧((1:Nat):Int)*(b+1)≤281474976710656∧b+1≤4611686018427387904:=by omega
  have k:(⟨#[42]⟩:GM).size≤2000000:=by show 1≤2000000;omega
  have m:0≤(44:Int)∧(44:Int)<256:=by omega
  have n:([⟨#[42]⟩]:List GM).length≤9223372036854775807:=by simp
  have o:cZ a b [⟨#[42]⟩] 0 (List.replicate (b+1).toNat false)=some (.x0 w):=by unfold cZ cZ;rw[Ej rfl];show(c4 b 1 9223372036854775808 _ a).bind _=_;rw[d];rfl
  unfold eX;rw[hi,Ej j,Ej k,Ej m,xv,Ej n,o,Eg];simp only;rw[g];exact⟨_,rfl,by simp only[Gk]at i;show l.length≤1000;omega⟩
 obtain⟨r,c,q⟩:=e;have p:ac ⟨#[42]⟩ a b=r:=by unfold ac;rw[c];rfl
 rw[p];exact⟨c,q⟩
theorem cq (c:GM)(a:Int)(b:Int)(h:c=(⟨#[42]⟩:GM))(g:0≤a∧a≤b∧b≤59):Does E 31 [D9 c,D7 a,D7 b] [(false,[Ec 1 (((ac c a b).1).map etI)]),D5 ((ac c a b).2)]:=by subst h;exact um _ a b _ (jo a b g).1
inductive l8 where|ret (v2_0 v2_1 v2_2 v2_3 v2_4:List Int) (v3:Bool)|x0
def dG (v2_0 v2_1 v2_2 v2_3 v2_4 v6_0 v6_1 a b c:List Int)(v7:List Bool)(v8:Int):US:=stL 85 [(2,.box () [Ec 1 (v2_0.map etI),Ec 1 (v2_1.map etI),Ec 1 (v2_2.map etI),Ec 1 (v2_3.map etI),Ec 1 (v2_4.map etI)]),(6,.box () [Ec 1 (v6_0.map etI),Ec 1 (v6_1.map etI),Ec 1 (a.map etI),Ec 1 (b.map etI),Ec 1 (c.map etI)]),(7,.one (Ec 1 (v7.map etB))),(8,D7 v8)]
def gJ (a b c d e:List Int)(f:Bool):US:=stL 85 [(2,.box () [Ec 1 (a.map etI),Ec 1 (b.map etI),Ec 1 (c.map etI),Ec 1 (d.map etI),Ec 1 (e.map etI)]),(3,D8 f)]
def ir (v2_0 v2_1 v2_2 v2_3 v2_4 v6_0 v6_1 a b c:List Int):US:=stL 85 [(2,.box () [Ec 1 (v2_0.map etI),Ec 1 (v2_1.map etI),Ec 1 (v2_2.map etI),Ec 1 (v2_3.map etI),Ec 1 (v2_4.map etI)]),(6,.box () [Ec 1 (v6_0.map etI),Ec 1 (v6_1.map etI),Ec 1 (a.map etI),Ec 1 (b.map etI),Ec 1 (c.map etI)])]
abbrev jB:US→Exit→US→Prop:=Round E 15 (aI Try.f15 0)
def qP (v2_0 v2_1 v2_2 v2_3 v2_4 v6_0 v6_1 a b c:List Int)(v7:List Bool)(v8:Int):l8→Prop| .ret d e f g h i=>Loops E 15 (aI Try.f15 0) (dG v2_0 v2_1 v2_2 v2_3 v2_4 v6_0 v6_1 a b c v7 v8) .ret (gJ d e f g h i)| .x0=>Loops E 15 (aI Try.f15 0) (dG v2_0 v2_1 v2_2 v2_3 v2_4 v6_0 v6_1 a b c v7 v8) (.exit 0) (ir v2_0 v2_1 v2_2 v2_3 v2_4 v6_0 v6_1 a b c)
noncomputable def cI (v7:List Bool):Nat→Int→Option l8| 0,_=>none|n+1,v8=>cond (decide (v8<(5:Int))) ((ba v7 v8).bind fun a=>cond (a) (cI v7 n (inc v8)) (some (.ret ([]) ([]) ([]) ([]) ([]) false))) (some (.x0))
theorem qO (v2_0 v2_1 v2_2 v2_3 v2_4 v6_0 v6_1 a b c:List Int)(v7:List Bool)(n:Nat):∀(v8:Int),Ans (cI v7 n v8) (qP v2_0 v2_1 v2_2 v2_3 v2_4 v6_0 v6_1 a b c v7 v8):=by
 induction n with
 |zero=>intros;exact Ans.none
 |succ n h =>
  intro v8;unfold cI;apply DO<;>intro e
  ·apply DQ;intro f d;apply DO<;>intro g
   ·have r:jB (dG v2_0 v2_1 v2_2 v2_3 v2_4 v6_0 v6_1 a b c v7 v8) .normal (dG v2_0 v2_1 v2_2 v2_3 v2_4 v6_0 v6_1 a b c v7 (inc v8)):=RP [.b true,.row ([tB true])] (AC e<|AC (p:=0≤v8∧v8<((v7.map etB).length:Int)) (pX d)<|AC (p:=(v7.map etB)[0+v8.toNat]?=some ([tB true])) ((lY d).trans (FP some (show [tB f]=[tB true] by rw[g])))<|AN);exact(h (inc v8)).mono fun y i=>by cases y<;>exact DM r i
   ·exact DL (DN (show jB (dG v2_0 v2_1 v2_2 v2_3 v2_4 v6_0 v6_1 a b c v7 v8) .ret (gJ ([]) ([]) ([]) ([]) ([]) false)from RP [.b true,.row ([tB false])] (AC e<|AC (p:=0≤v8∧v8<((v7.map etB).length:Int)) (pX d)<|AC (p:=(v7.map etB)[0+v8.toNat]?=some ([tB false])) ((lY d).trans (FP some (show [tB f]=[tB false] by rw[g])))<|AN)))
  ·exact DL (DN (show jB (dG v2_0 v2_1 v2_2 v2_3 v2_4 v6_0 v6_1 a b c v7 v8) (.exit 0) (ir v2_0 v2_1 v2_2 v2_3 v2_4 v6_0 v6_1 a b c)from RP [.b false] (AC e<|AN)))
noncomputable def d7 (f:GM):Option (GCron×Bool):=
  cond ((bu f).2)
   (cond ((((bu f).1).length:Int) != 5)
    (some ((GCron.mk ([]:List Int) ([]:List Int) ([]:List Int) ([]:List Int) ([]:List Int)),false))
    (if 0≤(5:Int)∧(5:Int)≤(5:Int)∧((1:Nat):Int)*(5:Int)≤281474976710656∧(5:Int)≤4611686018427387904 then(ba ((bu f).1) 0).bind fun g=>if g=(⟨#[42]⟩:GM)then if 0≤(0:Int)∧(0:Int)≤(59:Int)∧(59:Int)≤59 then(ba (List.replicate (5:Int).toNat false) 0).bind fun m=>(ba ((bu f).1) 1).bind fun h=>if h=(⟨#[42]⟩:GM)then if 0≤(0:Int)∧(0:Int)≤(23:Int)∧(23:Int)≤59 then(ba ((List.replicate (5:Int).toNat false).set (0:Int).toNat ((ac g 0 59).2)) 1).bind fun n=>(ba ((bu f).1) 2).bind fun i=>if i=(⟨#[42]⟩:GM)then if 0≤(1:Int)∧(1:Int)≤(31:Int)∧(31:Int)≤59 then(ba (((List.replicate (5:Int).toNat false).set (0:Int).toNat ((ac g 0 59).2)).set (1:Int).toNat ((ac h 0 23).2)) 2).bind fun o=>(ba ((bu f).1) 3).bind fun k=>if k=(⟨#[42]⟩:GM)then if 0≤(1:Int)∧(1:Int)≤(12:Int)∧(12:Int)≤59 then(ba ((((List.replicate (5:Int).toNat false).set (0:Int).toNat ((ac g 0 59).2)).set (1:Int).toNat ((ac h 0 23).2)).set (2:Int).toNat ((ac i 1 31).2)) 3).bind fun p=>(ba ((bu f).1) 4).bind fun l=>if l=(⟨#[42]⟩:GM)then if 0≤(0:Int)∧(0:Int)≤(6:Int)∧(6:Int)≤59 then(ba (((((List.replicate (5:Int).toNat false).set (0:Int).toNat ((ac g 0 59).2)).set (1:Int).toNat ((ac h 0 23).2)).set (2:Int).toNat ((ac i 1 31).2)).set (3:Int).toNat ((ac k 1 12).2)) 4).bind fun q=>(cI ((((((List.replicate (5:Int).toNat false).set (0:Int).toNat ((ac g 0 59).2)).set (1:Int).toNat ((ac h 0 23).2)).set (2:Int).toNat ((ac i 1 31).2)).set (3:Int).toNat ((ac k 1 12).2)).set (4:Int).toNat ((ac l 0 6).2)) 9223372036854775808 0).bind fun y=>match y with
     | .ret a b c d e j=>(some ((GCron.mk a b c d e),j))
     | .x0=>(some ((GCron.mk ((ac g 0 59).1) ((ac h 0 23).1) ((ac i 1 31).1) ((ac k 1 12).1) ((ac l 0 6).1)),true))else none else none else none else none else none else none else none else none else none else none else none))
   (some ((GCron.mk ([]:List Int) ([]:List Int) ([]:List Int) ([]:List Int) ([]:List Int)),false))
theorem r4 (x0:GM):Ans (d7 x0) (fun r=>Does E 15 [D9 x0] [(true,DX .own r.1),D5 r.2]):=by
 unfold d7;apply DO<;>intro C
 ·apply DO<;>intro K
  ·exact DL (DP Try.f15 [.ret [(false,[Ec 1 (((bu x0).1).map etS)]),D5 true],Ea (((bu x0).1).length:Int),.b true] (AD (gX x0 C)<|ALn ((bu x0).1) etS<|AC K<|AN))
  ·apply DR;intro L;apply DQ;intro a M;apply DR;intro N;apply DR;intro O;apply DQ;intro D P;apply DQ;intro b Q;apply DR;intro R;apply DR;intro S;apply DQ;intro F l;apply DQ;intro c m;apply DR;intro n;apply DR;intro o;apply DQ;intro G q;apply DQ;intro d s;apply DR;intro t;apply DR;intro u;apply DQ;intro H v;apply DQ;intro e w;apply DR;intro x;apply DR;intro z;apply DQ;intro I A;apply DQ;intro y J;replace J:=qO ([]) ([]) ([]) ([]) ([]) ((ac a 0 59).1) ((ac b 0 23).1) ((ac c 1 31).1) ((ac d 1 12).1) ((ac e 0 6).1) ((((((List.replicate (5:Int).toNat false).set (0:Int).toNat ((ac a 0 59).2)).set (1:Int).toNat ((ac b 0 23).2)).set (2:Int).toNat ((ac c 1 31).2)).set (3:Int).toNat ((ac d 1 12).2)).set (4:Int).toNat ((ac e 0 6).2)) 9223372036854775808 0 y J;cases y with
   |ret f g h i j B =>have k:=J;exact DL (DP Try.f15 [.ret [(false,[Ec 1 (((bu x0).1).map etS)]),D5 true],Ea (((bu x0).1).length:Int),.b false,.rows ((List.replicate (5:Int).toNat false).map etB),.row (etS a),.ret [(false,[Ec 1 (((ac a 0 59).1).map etI)]),D5 ((ac a 0 59).2)],.row (etB D),.rows (((List.replicate (5:Int).toNat false).set (0:Int).toNat ((ac a 0 59).2)).map etB),.row (etS b),.ret [(false,[Ec 1 (((ac b 0 23).1).map etI)]),D5 ((ac b 0 23).2)],.row (etB F),.rows ((((List.replicate (5:Int).toNat false).set (0:Int).toNat ((ac a 0 59).2)).set (1:Int).toNat ((ac b 0 23).2)).map etB),.row (etS c),.ret [(false,[Ec 1 (((ac c 1 31).1).map etI)]),D5 ((ac c 1 31).2)],.row (etB G),.rows (((((List.replicate (5:Int).toNat false).set (0:Int).toNat ((ac a 0 59).2)).set (1:Int).toNat ((ac b 0 23).2)).set (2:Int).toNat ((ac c 1 31).2)).map etB),.row (etS d),.ret [(false,[Ec 1 (((ac d 1 12).1).map etI)]),D5 ((ac d 1 12).2)],.row (etB H),.rows ((((((List.replicate (5:Int).toNat false).set (0:Int).toNat ((ac a 0 59).2)).set (1:Int).toNat ((ac b 0 23).2)).set (2:Int).toNat ((ac c 1 31).2)).set (3:Int).toNat ((ac d 1 12).2)).map etB),.row (etS e),.ret [(false,[Ec 1 (((ac e 0 6).1).map etI)]),D5 ((ac e 0 6).2)],.row (etB I),.rows (((((((List.replicate (5:Int).toNat false).set (0:Int).toNat ((ac a 0 59).2)).set (1:Int).toNat ((ac b 0 23).2)).set (2:Int).toNat ((ac c 1 31).2)).set (3:Int).toNat ((ac d 1 12).2)).set (4:Int).toNat ((ac e 0 6).2)).map etB),.lp .ret (gJ f g h i j B)] (AD (gX x0 C)<|ALn ((bu x0).1) etS<|AC K<|AC L<|AC (p:=List.replicate (5:Int).toNat [tB false]=(List.replicate (5:Int).toNat false).map etB) (qg rfl)<|AG etS M<|AD (cq a 0 59 N O)<|AG etB P<|AC (p:=((List.replicate (5:Int).toNat false).map etB).set (0+(0:Int).toNat) (ao (etB D) 0 [tB ((ac a 0 59).2)])=((List.replicate (5:Int).toNat false).set (0:Int).toNat ((ac a 0 59).2)).map etB) (gn (by rfl))<|AG etS Q<|AD (cq b 0 23 R S)<|AG etB l<|AC (p:=(((List.replicate (5:Int).toNat false).set (0:Int).toNat ((ac a 0 59).2)).map etB).set (0+(1:Int).toNat) (ao (etB F) 0 [tB ((ac b 0 23).2)])=(((List.replicate (5:Int).toNat false).set (0:Int).toNat ((ac a 0 59).2)).set (1:Int).toNat ((ac b 0 23).2)).map etB) (gn (by rfl))<|AG etS m<|AD (cq c 1 31 n o)<|AG etB q<|AC (p:=((((List.replicate (5:Int).toNat false).set (0:Int).toNat ((ac a 0 59).2)).set (1:Int).toNat ((ac b 0 23).2)).map etB).set (0+(2:Int).toNat) (ao (etB G) 0 [tB ((ac c 1 31).2)])=((((List.replicate (5:Int).toNat false).set (0:Int).toNat ((ac a 0 59).2)).set (1:Int).toNat ((ac b 0 23).2)).set (2:Int).toNat ((ac c 1 31).2)).map etB) (gn (by rfl))<|AG etS s<|AD (cq d 1 12 t u)<|AG etB v<|AC (p:=(((((List.replicate (5:Int).toNat false).set (0:Int).toNat ((ac a 0 59).2)).set (1:Int).toNat ((ac b 0 23).2)).set (2:Int).toNat ((ac c 1 31).2)).map etB).set (0+(3:Int).toNat) (ao (etB H) 0 [tB ((ac d 1 12).2)])=(((((List.replicate (5:Int).toNat false).set (0:Int).toNat ((ac a 0 59).2)).set (1:Int).toNat ((ac b 0 23).2)).set (2:Int).toNat ((ac c 1 31).2)).set (3:Int).toNat ((ac d 1 12).2)).map etB) (gn (by rfl))<|AG etS w<|AD (cq e 0 6 x z)<|AG etB A<|AC (p:=((((((List.replicate (5:Int).toNat false).set (0:Int).toNat ((ac a 0 59).2)).set (1:Int).toNat ((ac b 0 23).2)).set (2:Int).toNat ((ac c 1 31).2)).set (3:Int).toNat ((ac d 1 12).2)).map etB).set (0+(4:Int).toNat) (ao (etB I) 0 [tB ((ac e 0 6).2)])=((((((List.replicate (5:Int).toNat false).set (0:Int).toNat ((ac a 0 59).2)).set (1:Int).toNat ((ac b 0 23).2)).set (2:Int).toNat ((ac c 1 31).2)).set (3:Int).toNat ((ac d 1 12).2)).set (4:Int).toNat ((ac e 0 6).2)).map etB) (gn (by rfl))<|AL k<|AN))
   |x0 =>have k:=J;exact DL (DP Try.f15 [.ret [(false,[Ec 1 (((bu x0).1).map etS)]),D5 true],Ea (((bu x0).1).length:Int),.b false,.rows ((List.replicate (5:Int).toNat false).map etB),.row (etS a),.ret [(false,[Ec 1 (((ac a 0 59).1).map etI)]),D5 ((ac a 0 59).2)],.row (etB D),.rows (((List.replicate (5:Int).toNat false).set (0:Int).toNat ((ac a 0 59).2)).map etB),.row (etS b),.ret [(false,[Ec 1 (((ac b 0 23).1).map etI)]),D5 ((ac b 0 23).2)],.row (etB F),.rows ((((List.replicate (5:Int).toNat false).set (0:Int).toNat ((ac a 0 59).2)).set (1:Int).toNat ((ac b 0 23).2)).map etB),.row (etS c),.ret [(false,[Ec 1 (((ac c 1 31).1).map etI)]),D5 ((ac c 1 31).2)],.row (etB G),.rows (((((List.replicate (5:Int).toNat false).set (0:Int).toNat ((ac a 0 59).2)).set (1:Int).toNat ((ac b 0 23).2)).set (2:Int).toNat ((ac c 1 31).2)).map etB),.row (etS d),.ret [(false,[Ec 1 (((ac d 1 12).1).map etI)]),D5 ((ac d 1 12).2)],.row (etB H),.rows ((((((List.replicate (5:Int).toNat false).set (0:Int).toNat ((ac a 0 59).2)).set (1:Int).toNat ((ac b 0 23).2)).set (2:Int).toNat ((ac c 1 31).2)).set (3:Int).toNat ((ac d 1 12).2)).map etB),.row (etS e),.ret [(false,[Ec 1 (((ac e 0 6).1).map etI)]),D5 ((ac e 0 6).2)],.row (etB I),.rows (((((((List.replicate (5:Int).toNat false).set (0:Int).toNat ((ac a 0 59).2)).set (1:Int).toNat ((ac b 0 23).2)).set (2:Int).toNat ((ac c 1 31).2)).set (3:Int).toNat ((ac d 1 12).2)).set (4:Int).toNat ((ac e 0 6).2)).map etB),.lp (.exit 0) (ir ([]) ([]) ([]) ([]) ([]) ((ac a 0 59).1) ((ac b 0 23).1) ((ac c 1 31).1) ((ac d 1 12).1) ((ac e 0 6).1))] (AD (gX x0 C)<|ALn ((bu x0).1) etS<|AC K<|AC L<|AC (p:=List.replicate (5:Int).toNat [tB false]=(List.replicate (5:Int).toNat false).map etB) (qg rfl)<|AG etS M<|AD (cq a 0 59 N O)<|AG etB P<|AC (p:=((List.replicate (5:Int).toNat false).map etB).set (0+(0:Int).toNat) (ao (etB D) 0 [tB ((ac a 0 59).2)])=((List.replicate (5:Int).toNat false).set (0:Int).toNat ((ac a 0 59).2)).map etB) (gn (by rfl))<|AG etS Q<|AD (cq b 0 23 R S)<|AG etB l<|AC (p:=(((List.replicate (5:Int).toNat false).set (0:Int).toNat ((ac a 0 59).2)).map etB).set (0+(1:Int).toNat) (ao (etB F) 0 [tB ((ac b 0 23).2)])=(((List.replicate (5:Int).toNat false).set (0:Int).toNat ((ac a 0 59).2)).set (1:Int).toNat ((ac b 0 23).2)).map etB) (gn (by rfl))<|AG etS m<|AD (cq c 1 31 n o)<|AG etB q<|AC (p:=((((List.replicate (5:Int).toNat false).set (0:Int).toNat ((ac a 0 59).2)).set (1:Int).toNat ((ac b 0 23).2)).map etB).set (0+(2:Int).toNat) (ao (etB G) 0 [tB ((ac c 1 31).2)])=((((List.replicate (5:Int).toNat false).set (0:Int).toNat ((ac a 0 59).2)).set (1:Int).toNat ((ac b 0 23).2)).set (2:Int).toNat ((ac c 1 31).2)).map etB) (gn (by rfl))<|AG etS s<|AD (cq d 1 12 t u)<|AG etB v<|AC (p:=(((((List.replicate (5:Int).toNat false).set (0:Int).toNat ((ac a 0 59).2)).set (1:Int).toNat ((ac b 0 23).2)).set (2:Int).toNat ((ac c 1 31).2)).map etB).set (0+(3:Int).toNat) (ao (etB H) 0 [tB ((ac d 1 12).2)])=(((((List.replicate (5:Int).toNat false).set (0:Int).toNat ((ac a 0 59).2)).set (1:Int).toNat ((ac b 0 23).2)).set (2:Int).toNat ((ac c 1 31).2)).set (3:Int).toNat ((ac d 1 12).2)).map etB) (gn (by rfl))<|AG etS w<|AD (cq e 0 6 x z)<|AG etB A<|AC (p:=((((((List.replicate (5:Int).toNat false).set (0:Int).toNat ((ac a 0 59).2)).set (1:Int).toNat ((ac b 0 23).2)).set (2:Int).toNat ((ac c 1 31).2)).set (3:Int).toNat ((ac d 1 12).2)).map etB).set (0+(4:Int).toNat) (ao (etB I) 0 [tB ((ac e 0 6).2)])=((((((List.replicate (5:Int).toNat false).set (0:Int).toNat ((ac a 0 59).2)).set (1:Int).toNat ((ac b 0 23).2)).set (2:Int).toNat ((ac c 1 31).2)).set (3:Int).toNat ((ac d 1 12).2)).set (4:Int).toNat ((ac e 0 6).2)).map etB) (gn (by rfl))<|AL k<|AN))
 ·exact DL (DP Try.f15 [.ret [(false,[Ec 1 (((bu x0).1).map etS)]),D5 false]] (AD (gX x0 C)<|AN))
theorem vn:bu ⟨#[42,32,42,32,42,32,42,32,42]⟩=([⟨#[42]⟩,⟨#[42]⟩,⟨#[42]⟩,⟨#[42]⟩,⟨#[42]⟩],true):=by
 have a:¬ 600<(⟨#[42,32,42,32,42,32,42,32,42]⟩:GM).size:=by show ¬ 600<9;omega
 have b:(tx ⟨#[42,32,42,32,42,32,42,32,42]⟩).all okB=true:=by decide
 have c:(cj 32 (tx ⟨#[42,32,42,32,42,32,42,32,42]⟩)).map c9=[c9 [42],c9 [42],c9 [42],c9 [42],c9 [42]]:=rfl;have d:bj (c9 [42])=true:=pk [42];have e:[c9 [42],c9 [42],c9 [42],c9 [42],c9 [42]].filter bj=[c9 [42],c9 [42],c9 [42],c9 [42],c9 [42]]:=by simp only[Fx,d,EV,List.filter_nil]
 unfold bu;rw[Eu a,Ej b,c,e];rfl
theorem uz (v:List Bool)(hv:v.length=5):∀(m n:Nat)(x:Int),(5-x).toNat=m→m<n→0≤x→x≤5→cI v n x=some .x0∨cI v n x=some (.ret [] [] [] [] [] false)
 |m,0,x,_,a,_,_=>by omega
 | 0,n+1,x,b,_,_,_=>by unfold cI;rw[EA (by omega),EP];exact .inl rfl
 |m+1,n+1,x,b,a,d,e=>by
  have hi:inc x=x+1:=dP x (by omega) (by omega);obtain⟨g,c,_⟩:=lX (l:=v) (k:=x) (by omega);unfold cI;rw[EC (by omega),EG,c,Eg,hi];cases g with
  |true=>rw[EG];exact uz v hv m n (x+1) (by omega) (by omega) (by omega) (by omega)
  |false=>exact .inr rfl
noncomputable def ab (s:GM):GCron×Bool:=(d7 s).getD (⟨[],[],[],[],[]⟩,false)
theorem uA:d7 ⟨#[42,32,42,32,42,32,42,32,42]⟩=some (ab ⟨#[42,32,42,32,42,32,42,32,42]⟩)∧aA.sm (ab ⟨#[42,32,42,32,42,32,42,32,42]⟩).1:=by
 have e:∃r,d7 ⟨#[42,32,42,32,42,32,42,32,42]⟩=some r∧aA.sm r.1:=by
  have sm:∀{l:List Int},l.length≤1000→aA.sm l:=fun h=>⟨by omega,fun y N=>trivial⟩
  have f:aA.sm ([]:List Int):=sm (by simp);have o:∀{α:Type}(a b c d e:α),ba [a,b,c,d,e] 0=some a:=fun _ _ _ _ _=>rfl
  have t:∀{α:Type}(a b c d e:α),ba [a,b,c,d,e] 1=some b:=fun _ _ _ _ _=>rfl
  have u:∀{α:Type}(a b c d e:α),ba [a,b,c,d,e] 2=some c:=fun _ _ _ _ _=>rfl
  have v:∀{α:Type}(a b c d e:α),ba [a,b,c,d,e] 3=some d:=fun _ _ _ _ _=>rfl
  have w:∀{α:Type}(a b c d e:α),ba [a,b,c,d,e] 4=some e:=fun _ _ _ _ _=>rfl
  have z:∀{α:Type}(a b c d e x:α),[a,b,c,d,e].set (0:Int).toNat x=[x,b,c,d,e]:=fun _ _ _ _ _ _=>rfl
  have A:∀{α:Type}(a b c d e x:α),[a,b,c,d,e].set (1:Int).toNat x=[a,x,c,d,e]:=fun _ _ _ _ _ _=>rfl
  have B:∀{α:Type}(a b c d e x:α),[a,b,c,d,e].set (2:Int).toNat x=[a,b,x,d,e]:=fun _ _ _ _ _ _=>rfl
  have C:∀{α:Type}(a b c d e x:α),[a,b,c,d,e].set (3:Int).toNat x=[a,b,c,x,e]:=fun _ _ _ _ _ _=>rfl
  have D:∀{α:Type}(a b c d e x:α),[a,b,c,d,e].set (4:Int).toNat x=[a,b,c,d,x]:=fun _ _ _ _ _ _=>rfl
  have F:List.replicate (5:Int).toNat false=[false,false,false,false,false]:=rfl;have G:0≤(5:Int)∧(5:Int)≤(5:Int)∧((1:Nat):Int)*(5:Int)≤281474976710656∧(5:Int)≤4611686018427387904:=by omega
  have g:0≤(0:Int)∧(0:Int)≤59∧(59:Int)≤59:=by omega
  have i:0≤(0:Int)∧(0:Int)≤23∧(23:Int)≤59:=by omega
  have j:0≤(1:Int)∧(1:Int)≤31∧(31:Int)≤59:=by omega
  have k:0≤(1:Int)∧(1:Int)≤12∧(12:Int)≤59:=by omega
  have m:0≤(0:Int)∧(0:Int)≤6∧(6:Int)≤59:=by omega
  have H:=(jo 0 59 g).2;have I:=(jo 0 23 i).2;have J:=(jo 1 31 j).2;have K:=(jo 1 12 k).2;have L:=(jo 0 6 m).2;generalize hs:(⟨#[42]⟩:GM)=s at *;unfold d7;rw[vn];simp only[hs,EG];rw[show((([s,s,s,s,s]:List GM).length:Int) != (5:Int))=false from rfl,EP,Ej G];simp only[o,t,u,v,w,Eg,EV,Ej g,Ej i,Ej j,Ej k,Ej m,F,z,A,B,C,D];rcases uz [(ac s 0 59).2,(ac s 0 23).2,(ac s 1 31).2,(ac s 1 12).2,(ac s 0 6).2] rfl 5 9223372036854775808 0 rfl (by omega) (by omega) (by omega)with q|q
  ·rw[q,Eg];exact⟨_,rfl,sm H,sm I,sm J,sm K,sm L⟩
  ·rw[q,Eg];exact⟨_,rfl,f,f,f,f,f⟩
 obtain⟨r,n,M⟩:=e;have p:ab ⟨#[42,32,42,32,42,32,42,32,42]⟩=r:=by unfold ab;rw[n];rfl
 rw[p];exact⟨n,M⟩
theorem rJ (a:GM)(h:a=(⟨#[42,32,42,32,42,32,42,32,42]⟩:GM)):Does E 15 [D9 a] [(true,DX .own ((ab a).1)),D5 ((ab a).2)]:=by subst h;exact r4 _ _ uA.1
theorem aM (a:GM)(h:a=(⟨#[42,32,42,32,42,32,42,32,42]⟩:GM)){c:Bool}(b:(ab a).2=c):Does E 15 [D9 a] [(true,DX .own ((ab a).1)),D5 c]:=by rw[←b];exact rJ a h
end
end Go.Proofs.Ytlhgcolciklecaa.Am
