/- What stands above a task. -/
import Derived.Test.YtlgddjncnedkgaaGreatDoorPlans
namespace Go.Proofs.YtlgddjncnedkgaaGreatDoor.Am
open Go
set_option linter.unusedVariables false
set_option linter.unusedSimpArgs false
section
open Go.Proofs Classical
set_option maxRecDepth 100000
inductive K4 where|x0 (v5:List Int)
def zh (q0:Kd)(v2_0 v2_1:Zz)(v2_2 v2_3:Int)(v2_4:Bool)(a:List GTask)(v5:List Int)(b:List Zz)(c d:Int):US:=stL 29 [(2,.box () [tS v2_0,tS v2_1,tI v2_2,tI v2_3,tB v2_4,Wx 5 (a.map (Wj q0))]),(5,.one (Ww 1 (v5.map etI))),(13,.one (Wx 1 (b.map etS))),(14,Wr c),(15,Wr d)]
def zg (q0:Kd)(a:List Int):US:=stL 29 [(5,.one (Ww 1 (a.map etI)))]
abbrev K3:US→Exit→US→Prop:=Round E 102 (aq Tryz.f102 0)
def Th {q0:Kd}(v2_0 v2_1:Zz)(v2_2 v2_3:Int)(v2_4:Bool)(a:List GTask)(v5:List Int)(b:List Zz)(c d:Int):K4→Prop| .x0 e=>Loops E 102 (aq Tryz.f102 0) (zh q0 v2_0 v2_1 v2_2 v2_3 v2_4 a v5 b c d) (.exit 0) (zg q0 e)
noncomputable def m9 (v2_0 v2_1:Zz)(v2_2 v2_3:Int)(a:List GTask):List Zz→Nat→Bool→(List Int)→Option K4|[],i,v2_4,v5=>some (.x0 v5)|hd::rest,i,v2_4,v5=>if(GDag.mk v2_0 v2_1 v2_2 v2_3 v2_4 a).f5.length≤1050000 then if(v5.length+([ag (GDag.mk v2_0 v2_1 v2_2 v2_3 v2_4 a) hd]).length)*8≤140737488355328∧v5.length+([ag (GDag.mk v2_0 v2_1 v2_2 v2_3 v2_4 a) hd]).length≤4611686018427387904 then m9 v2_0 v2_1 v2_2 v2_3 a rest (i+1) v2_4 (v5++([ag (GDag.mk v2_0 v2_1 v2_2 v2_3 v2_4 a) hd]))else none else none
theorem Tg {q0:Kd}(v2_0 v2_1:Zz)(v2_2 v2_3:Int)(a:List GTask)(b:List Zz)(rest:List Zz):∀(i:Nat)(v2_4:Bool)(v5:List Int),(b).drop i=rest→b.length≤9223372036854775807→Ans (m9 v2_0 v2_1 v2_2 v2_3 a rest i v2_4 v5) (Th (q0:=q0) v2_0 v2_1 v2_2 v2_3 v2_4 a v5 b (b.length:Int) (i:Int)):=by
 induction rest with
 |nil =>intro i v2_4 v5 c d;have hb:=aP c;unfold m9;exact VZ (V3 (show K3 (zh q0 v2_0 v2_1 v2_2 v2_3 v2_4 a v5 b (b.length:Int) (i:Int)) (.exit 0) (zg q0 v5)from RP [.b false] (AC hb<|AN)))
 |cons hd rest f =>intro i v2_4 v5 c d;have hb:=aI c;have g:=aJ c d;have e:=az c;have h:=aK c;unfold m9;apply V6;intro j;apply V6;intro l;exact(f (i+1) v2_4 (v5++([ag (GDag.mk v2_0 v2_1 v2_2 v2_3 v2_4 a) hd])) e d).mono fun y m=>by have r:K3 (zh q0 v2_0 v2_1 v2_2 v2_3 v2_4 a v5 b (b.length:Int) (i:Int)) .normal (zh q0 v2_0 v2_1 v2_2 v2_3 v2_4 a (v5++([ag (GDag.mk v2_0 v2_1 v2_2 v2_3 v2_4 a) hd])) b (b.length:Int) (inc (i:Int))):=RP [.b true,.row (etS hd),.ret [Wo (ag (GDag.mk v2_0 v2_1 v2_2 v2_3 v2_4 a) hd)],.rows ((v5++([ag (GDag.mk v2_0 v2_1 v2_2 v2_3 v2_4 a) hd])).map etI)] (AC hb<|AR etS h<|AV (ψ:=fun k=>E.C k 53 [.agg (Wc .far q0 (GDag.mk v2_0 v2_1 v2_2 v2_3 v2_4 a)),Wt hd]=some [Wo (ag (GDag.mk v2_0 v2_1 v2_2 v2_3 v2_4 a) hd)]) (fx (GDag.mk v2_0 v2_1 v2_2 v2_3 v2_4 a) hd j)<|AAp etI (fun _=>rfl) l<|AN);rw[g]at r;cases y<;>exact V2 r m
noncomputable def Cz (b:GDag)(d:Int):Option ((List Int)):=
  (ar b.f5 d).bind fun c=>if c.f4.length≤9223372036854775807 then(m9 b.f0 b.f1 b.f2 b.f3 b.f5 c.f4 0 b.f4 ([])).bind fun y=>match y with
   | .x0 a=>(if a.length<4611686018427387904 then some (dj a)else none)else none
theorem TZ {q0:Kd}(x0:GDag)(e:Int):Ans (Cz x0 e) (fun r=>Does E 102 [.agg (Wc .far q0 x0),Wr e] [(false,[Ww 1 (r.map etI)])]):=by
 unfold Cz;apply V5;intro b f;apply V6;intro c;apply V5;intro y d;replace d:=Tg (q0:=q0) x0.f0 x0.f1 x0.f2 x0.f3 x0.f5 b.f4 b.f4 0 x0.f4 ([]) rfl c y d;cases y with
 |x0 a =>have g:=d;apply V6;intro h;exact VZ (DP Tryz.f102 [.row ((Wj q0) b),Wu (b.f4.length:Int),.lp (.exit 0) (zg q0 a),.ret [(false,[Ww 1 ((dj a).map etI)])]] (AR (Wj q0) f<|ALn b.f4 etS<|AL g<|AC (p:=(a.map etI).length=(a.map etI).length) rfl<|AV (ψ:=fun k=>E.C k 105 [.one (Ww 1 (a.map etI))]=some [(false,[Ww 1 ((dj a).map etI)])]) (ow a h)<|AN))
inductive Dv where|x2 (v5:List Int)
def mz (q0:Kd)(v1:Int)(v2_0 v2_1:Zz)(v2_2 v2_3:Int)(v2_4:Bool)(a:List GTask)(v5:List Int)(v6 v7:Int):US:=stL 48 [(1,Wr v1),(2,.box () [tS v2_0,tS v2_1,tI v2_2,tI v2_3,tB v2_4,Wx 5 (a.map (Wj q0))]),(5,.one (Ww 1 (v5.map etI))),(6,Wr v6),(7,Wr v7)]
def tK (q0:Kd)(v1:Int)(v2_0 v2_1:Zz)(v2_2 v2_3:Int)(v2_4:Bool)(a:List GTask)(v6:Int)(b:List Int):US:=stL 48 [(1,Wr v1),(2,.box () [tS v2_0,tS v2_1,tI v2_2,tI v2_3,tB v2_4,Wx 5 (a.map (Wj q0))]),(5,.one (Ww 1 (b.map etI))),(6,Wr v6)]
abbrev xp:US→Exit→US→Prop:=Round E 66 (aq Tryz.f66 1)
def N8 {q0:Kd}(v1:Int)(v2_0 v2_1:Zz)(v2_2 v2_3:Int)(v2_4:Bool)(a:List GTask)(v5:List Int)(v6 v7:Int):Dv→Prop| .x2 b=>Loops E 66 (aq Tryz.f66 1) (mz q0 v1 v2_0 v2_1 v2_2 v2_3 v2_4 a v5 v6 v7) (.exit 2) (tK q0 v1 v2_0 v2_1 v2_2 v2_3 v2_4 a v6 b)
noncomputable def ix (a:List GTask)(v6:Int):List Zz→Nat→Bool→(List Int)→Option Dv|[],i,v2_4,v5=>some (.x2 v5)|hd::rest,i,v2_4,v5=>(ar a v6).bind fun b=>cond (hd.toList==b.f0.toList) (if(v5.length+([v6]).length)*8≤140737488355328∧v5.length+([v6]).length≤4611686018427387904 then ix a v6 rest (i+1) v2_4 (v5++([v6]))else none) (ix a v6 rest (i+1) v2_4 v5)
theorem N6 {q0:Kd}(v1:Int)(v2_0 v2_1:Zz)(v2_2 v2_3:Int)(a:List GTask)(v6:Int)(b:GTask)(c:ar a v1=some b)(rest:List Zz):∀(i:Nat)(v2_4:Bool)(v5:List Int),(b.f4).drop i=rest→b.f4.length≤9223372036854775807→Ans (ix a v6 rest i v2_4 v5) (N8 (q0:=q0) v1 v2_0 v2_1 v2_2 v2_3 v2_4 a v5 v6 (i:Int)):=by
 induction rest with
 |nil =>intro i v2_4 v5 d f;have hb:=aP d;unfold ix;exact VZ (V3 (show xp (mz q0 v1 v2_0 v2_1 v2_2 v2_3 v2_4 a v5 v6 (i:Int)) (.exit 2) (tK q0 v1 v2_0 v2_1 v2_2 v2_3 v2_4 a v6 v5)from RP [.row ((Wj q0) b),Wu (b.f4.length:Int),.b false] (AR (Wj q0) c<|ALn b.f4 etS<|AC hb<|AN)))
 |cons hd rest h =>
  intro i v2_4 v5 d f;have hb:=aI d;have j:=aJ d f;have e:=az d;have k:=aK d;unfold ix;apply V5;intro l m;apply V4<;>intro n
  ·apply V6;intro o;exact(h (i+1) v2_4 (v5++([v6])) e f).mono fun y g=>by have r:xp (mz q0 v1 v2_0 v2_1 v2_2 v2_3 v2_4 a v5 v6 (i:Int)) .normal (mz q0 v1 v2_0 v2_1 v2_2 v2_3 v2_4 a (v5++([v6])) v6 (inc (i:Int))):=RP [.row ((Wj q0) b),Wu (b.f4.length:Int),.b true,.row ((Wj q0) b),.row (etS hd),.row ((Wj q0) l),.b true,.rows ((v5++([v6])).map etI)] (AR (Wj q0) c<|ALn b.f4 etS<|AC hb<|AR (Wj q0) c<|AR etS k<|AR (Wj q0) m<|AC n<|AAp etI (fun _=>rfl) o<|AN);rw[j]at r;cases y<;>exact V2 r g
  ·exact(h (i+1) v2_4 v5 e f).mono fun y g=>by have r:xp (mz q0 v1 v2_0 v2_1 v2_2 v2_3 v2_4 a v5 v6 (i:Int)) .normal (mz q0 v1 v2_0 v2_1 v2_2 v2_3 v2_4 a v5 v6 (inc (i:Int))):=RP [.row ((Wj q0) b),Wu (b.f4.length:Int),.b true,.row ((Wj q0) b),.row (etS hd),.row ((Wj q0) l),.b false] (AR (Wj q0) c<|ALn b.f4 etS<|AC hb<|AR (Wj q0) c<|AR etS k<|AR (Wj q0) m<|AC n<|AN);rw[j]at r;cases y<;>exact V2 r g
inductive Du where|x0 (v5:List Int)
def sK (q0:Kd)(v1:Int)(v2_0 v2_1:Zz)(v2_2 v2_3:Int)(v2_4:Bool)(a:List GTask)(v5:List Int)(v6:Int):US:=stL 48 [(1,Wr v1),(2,.box () [tS v2_0,tS v2_1,tI v2_2,tI v2_3,tB v2_4,Wx 5 (a.map (Wj q0))]),(5,.one (Ww 1 (v5.map etI))),(6,Wr v6)]
def tJ (q0:Kd)(a:List Int):US:=stL 48 [(5,.one (Ww 1 (a.map etI)))]
abbrev Dt:US→Exit→US→Prop:=Round E 66 (aq Tryz.f66 0)
def N7 {q0:Kd}(v1:Int)(v2_0 v2_1:Zz)(v2_2 v2_3:Int)(v2_4:Bool)(a:List GTask)(v5:List Int)(v6:Int):Du→Prop| .x0 b=>Loops E 66 (aq Tryz.f66 0) (sK q0 v1 v2_0 v2_1 v2_2 v2_3 v2_4 a v5 v6) (.exit 0) (tJ q0 b)
noncomputable def jA (v1:Int)(a:List GTask):List GTask→Nat→Bool→(List Int)→Option Du
 |[],i,v2_4,v5=>some (.x0 v5)
 |hd::rest,i,v2_4,v5=>(ar a v1).bind fun c=>if c.f4.length≤9223372036854775807 then(ix a (i:Int) c.f4 0 v2_4 v5).bind fun y=>match y with
  | .x2 b=>(jA v1 a rest (i+1) v2_4 b)else none
theorem N5 {q0:Kd}(v1:Int)(v2_0 v2_1:Zz)(v2_2 v2_3:Int)(a:List GTask)(rest:List GTask):∀(i:Nat)(v2_4:Bool)(v5:List Int),(a).drop i=rest→a.length≤9223372036854775807→Ans (jA v1 a rest i v2_4 v5) (N7 (q0:=q0) v1 v2_0 v2_1 v2_2 v2_3 v2_4 a v5 (i:Int)):=by
 induction rest with
 |nil =>intro i v2_4 v5 c e;have hb:=aP c;unfold jA;exact VZ (V3 (show Dt (sK q0 v1 v2_0 v2_1 v2_2 v2_3 v2_4 a v5 (i:Int)) (.exit 0) (tJ q0 v5)from RP [Wu (a.length:Int),.b false] (ALn a (Wj q0)<|AC hb<|AN)))
 |cons hd rest j =>
  intro i v2_4 v5 c e;have hb:=aI c;have k:=aJ c e;have f:=az c;have n:=aK c;unfold jA;apply V5;intro h l;apply V6;intro g;apply V5;intro y d;replace d:=N6 (q0:=q0) v1 v2_0 v2_1 v2_2 v2_3 a (i:Int) h l h.f4 0 v2_4 v5 rfl g y d;cases y with
  |x2 b =>have m:=d;exact(j (i+1) v2_4 b f e).mono fun y d=>by have r:Dt (sK q0 v1 v2_0 v2_1 v2_2 v2_3 v2_4 a v5 (i:Int)) .normal (sK q0 v1 v2_0 v2_1 v2_2 v2_3 v2_4 a b (inc (i:Int))):=RP [Wu (a.length:Int),.b true,.lp (.exit 2) (tK q0 v1 v2_0 v2_1 v2_2 v2_3 v2_4 a (i:Int) b)] (ALn a (Wj q0)<|AC hb<|AL m<|AN);rw[k]at r;cases y<;>exact V2 r d
noncomputable def uq (b:GDag)(c:Int):Option ((List Int)):=
  if b.f5.length≤9223372036854775807 then(jA c b.f5 b.f5 0 b.f4 ([])).bind fun y=>match y with
   | .x0 a=>(some (a))else none
theorem QE {q0:Kd}(x0:GDag)(b:Int):Ans (uq x0 b) (fun r=>Does E 66 [.agg (Wc .far q0 x0),Wr b] [(false,[Ww 1 (r.map etI)])]):=by
 unfold uq;apply V6;intro c;apply V5;intro y d;replace d:=N5 (q0:=q0) b x0.f0 x0.f1 x0.f2 x0.f3 x0.f5 x0.f5 0 x0.f4 ([]) rfl c y d;cases y with
 |x0 a =>have e:=d;exact VZ (DP Tryz.f66 [.lp (.exit 0) (tJ q0 a)] (AL e<|AN))
noncomputable def Tv (ts:List GTask)(t:GTask):List Int:=dj (t.f4.map (ay ts))
noncomputable def ups (d:GDag)(i:Int):List Int:=match ar d.f5 i with|some t=>Tv d.f5 t|none=>[]
theorem rx {d:GDag}(h:aY d=true):d.f5.length≤4∧1≤d.f5.length∧fg d.f5 d.f5 0=true∧df d.f5∧(cn d.f5).length=d.f5.length:=by
 unfold aY at h;simp only[W0,Yc]at h;obtain⟨_,_,_,_,b,c,e⟩:=h;have a:1≤d.f5.length∧d.f5.length≤4:=by unfold ak at b;simp at b;omega
 exact⟨a.2,a.1,c,y7 a.2 c,by omega⟩
theorem FH {ts:List GTask}(h:fg ts ts 0=true){k:Nat}{t:GTask}(a:ts[k]?=some t):asc t.f0 t.f4 none=true∧∀n∈t.f4,0≤ay ts n:=by have:=zx ts ts 0 rfl h k t (YM _) a;unfold kV at this;simp only[W0]at this;exact⟨this.2.2.2.2.1,fun n b=>Yo (WS.1 this.2.2.2.2.2 n b)⟩
theorem JS (ts:List GTask){a b:Zz}(h:tx a=tx b):ay ts a=ay ts b:=by rw[FY h]
theorem zK {ts:List GTask}{n:Zz}(h:0≤ay ts n):∃(k:Nat) (t:GTask),ay ts n=(k:Int)∧ts[k]?=some t∧tx t.f0=tx n:=by
 unfold ay at h ⊢;rcases qq n ts 0 with⟨b,_⟩|⟨k,t,c,d,a⟩
 ·rw[b]at h;omega
 ·unfold lB at a;rw[me,Xv]at a;exact⟨k,t,by rw[c];omega,d,a⟩
theorem tL {l:List Int}(e:l.Nodup):(dj l).Pairwise (· < ·)∧∀x,x∈dj l↔x∈l:=by
 have hs:(dj l).Pairwise (· ≤ ·):=by have:=Zt (le:=fun x y:Int=>decide (x≤y)) (fun a b c=>by simp;omega) (fun a b=>by simp;omega) l;exact this.imp fun h=>by simpa using h
 have d:(dj l).Perm l:=List.mergeSort_perm l _;have hd:(dj l).Nodup:=d.nodup_iff.2 e;refine⟨?_,fun x=>d.mem_iff⟩;have:=hs.and hd;exact this.imp fun⟨a,b⟩=>by omega
theorem Iq {ts:List GTask}{t:GTask}(h:asc t.f0 t.f4 none=true)(f:∀n∈t.f4,0≤ay ts n):(t.f4.map (ay ts)).Nodup:=by
 have c:=(vH t.f0 t.f4 none h).1;unfold List.Nodup at c ⊢;rw[Zo]at c ⊢;refine c.imp_of_mem fun {a b} i l d e=>?_
 obtain⟨k,u,p,m,o⟩:=zK (f a i);obtain⟨j,v,g1,g,g3⟩:=zK (f b l);have:k=j:=by omega
 subst this;rw[m]at g;cases g;exact d (o.symm.trans g3)
def kp (a:List Zz):List GTask→Nat→List Int|[],_=>[]|t::r,k=>(a.filter fun n=>n.toList==t.f0.toList).map (fun _=>(k:Int))++kp a r (k+1)
theorem EW {x:Zz}:∀{l:List Zz},(l.map tx).Nodup→(l.filter fun n=>n.toList==x.toList).length≤1
 |[],_=>by simp
 |y::l,h=>by
  rw[WT,Za]at h;have a:=EW (x:=x) h.2;rw[XY];split
  ·rename_i q;rw[me,Xv]at q;have:l.filter (fun n=>n.toList==x.toList)=[]:=by rw[List.filter_eq_nil_iff];intro z hz e;rw[me,Xv]at e;exact h.1 (WU.2 ⟨z,hz,e.trans q.symm⟩)
   rw[this];simp
  ·exact a
theorem F0 {f:List Zz}(d:(f.map tx).Nodup):∀(l:List GTask)(k:Nat),(kp f l k).Pairwise (· < ·)∧(∀x∈kp f l k,(k:Int)≤x)∧∀x,x∈kp f l k↔∃(j:Nat) (t:GTask),l[j]?=some t∧x=((k+j:Nat):Int)∧∃n∈f,tx n=tx t.f0
 |[],k=>⟨by simp[kp],fun x hx=>by simp[kp]at hx,fun x=>by simp[kp]⟩
 |t::l,k=>by
  obtain⟨m,i,o⟩:=F0 d l (k+1);unfold kp;have hf:=EW (x:=t.f0) d;have c:∀x,x∈(f.filter fun n=>n.toList==t.f0.toList).map (fun _=>(k:Int))↔x=(k:Int)∧∃n∈f,tx n=tx t.f0:=fun x=>by
   rw[WU];constructor
   ·rintro⟨n,g,rfl⟩;rw[XV,me,Xv]at g;exact⟨rfl,n,g⟩
   ·rintro⟨rfl,n,g⟩;exact⟨n,by rw[XV,me,Xv];exact g,rfl⟩
  refine⟨?_,fun x hx=>?_,fun x=>?_⟩
  ·rw[YL];refine⟨?_,m,fun a p b hb=>?_⟩
   ·generalize (f.filter fun n=>n.toList==t.f0.toList)=L at hf
    match L,hf with
    |[],_=>simp
    |[y],_=>simp
    |y::z::w,hf=>simp at hf
   ·have:=((c a).1 p).1;have:=i b hb;omega
  ·rcases W5.1 hx with hx|hx
   ·have:=((c x).1 hx).1;omega
   ·have:=i x hx;omega
  ·rw[W5,c,o];constructor
   ·rintro(⟨e,d⟩|⟨j,u,h,q,d⟩)
    ·exact⟨0,t,rfl,by omega,d⟩
    ·exact⟨j+1,u,h,by omega,d⟩
   ·rintro⟨j,u,h,q,d⟩;cases j with
    |zero=>cases h;exact .inl ⟨by omega,d⟩
    |succ j=>exact .inr ⟨j,u,h,by omega,d⟩
theorem Tw {ts:List GTask}(g:df ts){t:GTask}(d:asc t.f0 t.f4 none=true)(e:∀n∈t.f4,0≤ay ts n):kp t.f4 ts 0=Tv ts t:=by
 obtain⟨h, -,a3⟩:=F0 (vH t.f0 t.f4 none d).1 ts 0;obtain⟨i,l⟩:=tL (Iq d e);refine wu h i fun x=>?_
 rw[a3];show _↔x∈dj _;rw[l,WU];constructor
 ·rintro⟨j,u,b,f,n,a,c⟩;refine⟨n,a,?_⟩;rw[JS ts c,g.2 j u b];omega
 ·rintro⟨n,a,rfl⟩;obtain⟨k,u,b,f,c⟩:=zK (e n a);exact⟨k,u,f,by rw[b];omega,n,a,c.symm⟩
theorem SC (a b:Zz)(c e:Int)(ts:List GTask)(d:ts.length≤1050000):∀(l:List Zz)(i:Nat)(z:Bool)(v:List Int),v.length+l.length≤2000000→m9 a b c e ts l i z v=some (.x0 (v++l.map (ay ts)))
 |[],i,z,v,_=>by unfold m9;simp
 |n::l,i,z,v,f=>by simp only[W4]at f;unfold m9;rw[Wz (show(GDag.mk a b c e z ts).f5.length≤1050000 from d),Wz (by simp;omega),SC a b c e ts d l (i+1) z _ (by simp;omega)];simp[ag]
theorem UU (d:GDag)(i:Int)(h:ab.sm d)(hi:0≤i∧i<(d.f5.length:Int)):Cz d i=some (ups d i):=by have hs:ab.sm d.f5:=h.2.2;obtain⟨t,a,b⟩:=eK hi;have c:t.f4.length≤1050000:=(hs.2 t b).2.2.1;unfold Cz ups;rw[a,Wy,Wz (by omega),SC _ _ _ _ _ hs.1 _ _ _ _ (by simp;omega),Wy];simp only[W7];rw[Wz (by rw[W6];omega)];rfl
theorem MB (ts:List GTask)(k:Nat)(u:GTask)(a:ts[k]?=some u):∀(l:List Zz)(i:Nat)(z:Bool)(v:List Int),v.length+l.length≤8000000→ix ts (k:Int) l i z v=some (.x2 (v++(l.filter fun n=>n.toList==u.f0.toList).map fun _=>(k:Int)))
 |[],i,z,v,_=>by unfold ix;simp
 |n::l,i,z,v,b=>by
  simp only[W4]at b;have c:ar ts (k:Int)=some u:=by rw[dA];exact a
  unfold ix;rw[c,Wy,XY];cases n.toList==u.f0.toList with
  |true=>rw[WK,Wz (by simp;omega),MB ts k u a l (i+1) z _ (by simp;omega)];simp
  |false=>rw[WO,MB ts k u a l (i+1) z v (by omega)];simp
theorem SB (ts:List GTask)(i:Int)(t:GTask)(b:ar ts i=some t)(c:t.f4.length≤1050000)(a:ts.length≤4):∀(l:List GTask)(k:Nat)(z:Bool)(v:List Int),ts.drop k=l→v.length+l.length*1050000≤6000000→jA i ts l k z v=some (.x0 (v++kp t.f4 l k))
 |[],k,z,v,_,_=>by unfold jA kp;rw[WX]
 |u::l,k,z,v,hd,hv=>by
  have d:ts[k]?=some u:=by rw[←YE,hd];rfl
  simp only[W4]at hv;have hf:=List.length_filter_le (fun n:Zz=>n.toList==u.f0.toList) t.f4;unfold jA kp;rw[b,Wy,Wz (by omega),MB ts k u d _ _ _ _ (by omega),Wy];simp only;rw[SB ts i t b c a l (k+1) z _ (az hd) (by simp;omega),XU]
theorem UV (d:GDag)(i:Int)(h:ab.sm d)(hd:aY d=true)(hi:0≤i∧i<(d.f5.length:Int)):uq d i=some (ups d i):=by obtain⟨c, -,e,a, -⟩:=rx hd;have hs:ab.sm d.f5:=h.2.2;obtain⟨t,b,f⟩:=eK hi;have hf:t.f4.length≤1050000:=(hs.2 t f).2.2.1;obtain⟨l,g⟩:=lI b;obtain⟨j,k⟩:=FH e g;unfold uq ups;rw[Wz (by omega),b,SB d.f5 i t b hf c d.f5 0 d.f4 [] rfl (by simp;omega),Wy];simp only[W7];rw[Tw a j k]
theorem SA {d:GDag}{i:Int}(hd:aY d=true)(hi:0≤i∧i<(d.f5.length:Int)):(∀x∈ups d i,0≤x∧x<(d.f5.length:Int))∧(ups d i).length≤4:=by
 obtain⟨p, -,g,j, -⟩:=rx hd;obtain⟨t,b,c⟩:=eK hi;obtain⟨q,k⟩:=lI b;obtain⟨l,f⟩:=FH g k;have e:ups d i=Tv d.f5 t:=by unfold ups;rw[b]
 obtain⟨m,o⟩:=tL (Iq l f);have a:∀x∈ups d i,0≤x∧x<(d.f5.length:Int):=fun x a=>by rw[e]at a;obtain⟨n,c,rfl⟩:=WU.1 ((o x).1 a);exact⟨f n c,(QL d.f5 n).2⟩
 refine⟨a,?_⟩;have:=zy 0 ((d.f5.length:Int)-1) (ups d i) 0 (by rw[e];exact m) (fun x h=>by have:=a x h;omega) (by omega);omega
theorem F5 {q0:Kd}(a:GDag)(b:Int)(h:ab.sm a)(hd:aY a=true)(hi:0≤b∧b<(a.f5.length:Int)):Does E 102 [.agg (Wc .far q0 a),Wr b] [(false,[Ww 1 ((ups a b).map etI)])]:=by exact TZ a b _ (UU a b h hi)
theorem EE {q0:Kd}(a:GDag)(b:Int)(h:ab.sm a)(hd:aY a=true)(hi:0≤b∧b<(a.f5.length:Int)):Does E 66 [.agg (Wc .far q0 a),Wr b] [(false,[Ww 1 ((ups a b).map etI)])]:=by exact QE a b _ (UV a b h hd hi)
noncomputable def Fb (a:GDag)(b:Int):Option (Bool):=some (ak b 0 (IntKind.wrap .i64 ((a.f5.length:Int)-(1:Int))))
theorem PW {q0:Kd}(a:GDag)(b:Int):Ans (Fb a b) (fun r=>Does E 77 [.agg (Wc .far q0 a),Wr b] [Wp r]):=by unfold Fb;exact VZ (DP Tryz.f77 [Wu (a.f5.length:Int),.ret [Wp (ak b 0 (IntKind.wrap .i64 ((a.f5.length:Int)-(1:Int))))]] (ALn a.f5 (Wj q0)<|AD (aG b 0 (IntKind.wrap .i64 ((a.f5.length:Int)-(1:Int))))<|AN))
def nb (d:GDag)(i:Int):Bool:=ak i 0 (IntKind.wrap .i64 ((d.f5.length:Int)-1))
theorem H8 {d:GDag}{i:Int}(h:nb d i=true)(hs:ab.sm d):0≤i∧i<(d.f5.length:Int):=Nr h hs.2.2.1
theorem ql {q0:Kd}(a:GDag)(b:Int):Does E 77 [.agg (Wc .far q0 a),Wr b] [Wp (nb a b)]:=by exact PW a b _ rfl
end
end Go.Proofs.YtlgddjncnedkgaaGreatDoor.Am
