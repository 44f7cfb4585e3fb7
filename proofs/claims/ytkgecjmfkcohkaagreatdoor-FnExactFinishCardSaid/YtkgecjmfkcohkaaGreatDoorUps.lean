/- What stands above a task. -/
import Derived.Test.YtkgecjmfkcohkaaGreatDoorPlans
namespace Go.Proofs.YtkgecjmfkcohkaaGreatDoor.Am
open Go
set_option linter.unusedVariables false
set_option linter.unusedSimpArgs false
section
open Go.Proofs Classical
set_option maxRecDepth 100000
inductive DZ where|x0 (v5:List Int)
def tN (q0:Kd)(v2_0 v2_1:ByteArray)(v2_2 v2_3:Int)(v2_4:Bool)(a:List GTask)(v5:List Int)(b:List ByteArray)(c d:Int):US:=stL 29 [(2,.box () [tS v2_0,tS v2_1,tI v2_2,tI v2_3,tB v2_4,.s .far () 5 (a.map (GTask.t q0))]),(5,.one (.s .own () 1 (v5.map etI))),(13,.one (.s .far () 1 (b.map etS))),(14,NZ c),(15,NZ d)]
def tM (q0:Kd)(a:List Int):US:=stL 29 [(5,.one (.s .own () 1 (a.map etI)))]
abbrev DY:US→Exit→US→Prop:=Round E 87 (aw Tryz.f87 0)
def Le {q0:Kd}(v2_0 v2_1:ByteArray)(v2_2 v2_3:Int)(v2_4:Bool)(a:List GTask)(v5:List Int)(b:List ByteArray)(c d:Int):DZ→Prop| .x0 e=>Loops E 87 (aw Tryz.f87 0) (tN q0 v2_0 v2_1 v2_2 v2_3 v2_4 a v5 b c d) (.exit 0) (tM q0 e)
noncomputable def kI (v2_0 v2_1:ByteArray)(v2_2 v2_3:Int)(a:List GTask):List ByteArray→Nat→Bool→(List Int)→Option DZ|[],i,v2_4,v5=>some (.x0 v5)|hd::rest,i,v2_4,v5=>if(GDag.mk v2_0 v2_1 v2_2 v2_3 v2_4 a).f5.length≤1050000 then if(v5.length+([bL (GDag.mk v2_0 v2_1 v2_2 v2_3 v2_4 a) hd]).length)*8≤140737488355328∧v5.length+([bL (GDag.mk v2_0 v2_1 v2_2 v2_3 v2_4 a) hd]).length≤4611686018427387904 then kI v2_0 v2_1 v2_2 v2_3 a rest (i+1) v2_4 (v5++([bL (GDag.mk v2_0 v2_1 v2_2 v2_3 v2_4 a) hd]))else none else none
theorem Ld {q0:Kd}(v2_0 v2_1:ByteArray)(v2_2 v2_3:Int)(a:List GTask)(b:List ByteArray)(rest:List ByteArray):∀(i:Nat)(v2_4:Bool)(v5:List Int),(b).drop i=rest→b.length≤9223372036854775807→Ans (kI v2_0 v2_1 v2_2 v2_3 a rest i v2_4 v5) (Le (q0:=q0) v2_0 v2_1 v2_2 v2_3 v2_4 a v5 b (b.length:Int) (i:Int)):=by
 induction rest with
 |nil =>intro i v2_4 v5 c d;have hb:=bw c;unfold kI;exact NN (NP (show DY (tN q0 v2_0 v2_1 v2_2 v2_3 v2_4 a v5 b (b.length:Int) (i:Int)) (.exit 0) (tM q0 v5)from RP [.b false] (AC hb<|AN)) (by intro h;cases h))
 |cons hd rest f =>intro i v2_4 v5 c d;have hb:=a8 c;have g:=ba c d;have e:=aG c;have j:=bc c;unfold kI;refine NS (fun l => ?_);refine NS (fun m => ?_);exact(f (i+1) v2_4 (v5++([bL (GDag.mk v2_0 v2_1 v2_2 v2_3 v2_4 a) hd])) e d).mono fun y n=>by have r:DY (tN q0 v2_0 v2_1 v2_2 v2_3 v2_4 a v5 b (b.length:Int) (i:Int)) .normal (tN q0 v2_0 v2_1 v2_2 v2_3 v2_4 a (v5++([bL (GDag.mk v2_0 v2_1 v2_2 v2_3 v2_4 a) hd])) b (b.length:Int) (inc (i:Int))):=RP [.b true,.row (etS hd),.ret [NW (bL (GDag.mk v2_0 v2_1 v2_2 v2_3 v2_4 a) hd)],.rows ((v5++([bL (GDag.mk v2_0 v2_1 v2_2 v2_3 v2_4 a) hd])).map etI)] (AC hb<|AR etS j<|AV (ψ:=fun k=>E.C k 66 [.agg (GDag.t .far q0 (GDag.mk v2_0 v2_1 v2_2 v2_3 v2_4 a)),N1 hd]=some [NW (bL (GDag.mk v2_0 v2_1 v2_2 v2_3 v2_4 a) hd)]) (fB (GDag.mk v2_0 v2_1 v2_2 v2_3 v2_4 a) hd l)<|AAp etI (fun _=>rfl) m<|AN);rw[g]at r;cases y<;>exact NO r n
noncomputable def wH (x0:GDag)(c:Int):Option ((List Int)):=
  (ap x0.f5 c).bind fun b=>if b.f4.length≤9223372036854775807 then(kI x0.f0 x0.f1 x0.f2 x0.f3 x0.f5 b.f4 0 x0.f4 ([])).bind fun y=>match y with
   | .x0 a=>(if a.length<4611686018427387904 then some (dO a)else none)else none
theorem LU {q0:Kd}(x0:GDag)(e:Int):Ans (wH x0 e) (fun r=>Does E 87 [.agg (GDag.t .far q0 x0),NZ e] [(false,[.s .own () 1 (r.map etI)])]):=by
 unfold wH;refine NR (fun b f => ?_);refine NS (fun c => ?_);refine NR (fun y d => ?_);replace d:=Ld (q0:=q0) x0.f0 x0.f1 x0.f2 x0.f3 x0.f5 b.f4 b.f4 0 x0.f4 ([]) rfl c y d;cases y with
 |x0 a =>have g:=d;refine NS (fun h => ?_);exact NN (DP Tryz.f87 [.row ((GTask.t q0) b),N2 (b.f4.length:Int),.lp (.exit 0) (tM q0 a),.ret [(false,[.s .own () 1 ((dO a).map etI)])]] (AR (GTask.t q0) f<|ALn b.f4 etS<|AL g<|AC (p:=(a.map etI).length=(a.map etI).length) rfl<|AV (ψ:=fun k=>E.C k 100 [.one (.s .own () 1 (a.map etI))]=some [(false,[.s .own () 1 ((dO a).map etI)])]) (pp a h)<|AN))
inductive xC where|x2 (v5:List Int)
def kb (q0:Kd)(v1:Int)(v2_0 v2_1:ByteArray)(v2_2 v2_3:Int)(v2_4:Bool)(a:List GTask)(v5:List Int)(v6 v7:Int):US:=stL 48 [(1,NZ v1),(2,.box () [tS v2_0,tS v2_1,tI v2_2,tI v2_3,tB v2_4,.s .far () 5 (a.map (GTask.t q0))]),(5,.one (.s .own () 1 (v5.map etI))),(6,NZ v6),(7,NZ v7)]
def pn (q0:Kd)(v1:Int)(v2_0 v2_1:ByteArray)(v2_2 v2_3:Int)(v2_4:Bool)(a:List GTask)(v6:Int)(b:List Int):US:=stL 48 [(1,NZ v1),(2,.box () [tS v2_0,tS v2_1,tI v2_2,tI v2_3,tB v2_4,.s .far () 5 (a.map (GTask.t q0))]),(5,.one (.s .own () 1 (b.map etI))),(6,NZ v6)]
abbrev rU:US→Exit→US→Prop:=Round E 61 (aw Tryz.f61 1)
def Gx {q0:Kd}(v1:Int)(v2_0 v2_1:ByteArray)(v2_2 v2_3:Int)(v2_4:Bool)(a:List GTask)(v5:List Int)(v6 v7:Int):xC→Prop| .x2 b=>Loops E 61 (aw Tryz.f61 1) (kb q0 v1 v2_0 v2_1 v2_2 v2_3 v2_4 a v5 v6 v7) (.exit 2) (pn q0 v1 v2_0 v2_1 v2_2 v2_3 v2_4 a v6 b)
noncomputable def fJ (a:List GTask)(v6:Int):List ByteArray→Nat→Bool→(List Int)→Option xC|[],i,v2_4,v5=>some (.x2 v5)|hd::rest,i,v2_4,v5=>(ap a v6).bind fun b=>cond (hd.toList==b.f0.toList) (if(v5.length+([v6]).length)*8≤140737488355328∧v5.length+([v6]).length≤4611686018427387904 then fJ a v6 rest (i+1) v2_4 (v5++([v6]))else none) (fJ a v6 rest (i+1) v2_4 v5)
theorem Gv {q0:Kd}(v1:Int)(v2_0 v2_1:ByteArray)(v2_2 v2_3:Int)(a:List GTask)(v6:Int)(b:GTask)(c:ap a v1=some b)(rest:List ByteArray):∀(i:Nat)(v2_4:Bool)(v5:List Int),(b.f4).drop i=rest→b.f4.length≤9223372036854775807→Ans (fJ a v6 rest i v2_4 v5) (Gx (q0:=q0) v1 v2_0 v2_1 v2_2 v2_3 v2_4 a v5 v6 (i:Int)):=by
 induction rest with
 |nil =>intro i v2_4 v5 d f;have hb:=bw d;unfold fJ;exact NN (NP (show rU (kb q0 v1 v2_0 v2_1 v2_2 v2_3 v2_4 a v5 v6 (i:Int)) (.exit 2) (pn q0 v1 v2_0 v2_1 v2_2 v2_3 v2_4 a v6 v5)from RP [.row ((GTask.t q0) b),N2 (b.f4.length:Int),.b false] (AR (GTask.t q0) c<|ALn b.f4 etS<|AC hb<|AN)) (by intro h;cases h))
 |cons hd rest j =>
  intro i v2_4 v5 d f;have hb:=a8 d;have k:=ba d f;have e:=aG d;have l:=bc d;unfold fJ;refine NR (fun m n => ?_);apply NQ<;>intro o
  ·refine NS (fun p => ?_);exact(j (i+1) v2_4 (v5++([v6])) e f).mono fun y g=>by have r:rU (kb q0 v1 v2_0 v2_1 v2_2 v2_3 v2_4 a v5 v6 (i:Int)) .normal (kb q0 v1 v2_0 v2_1 v2_2 v2_3 v2_4 a (v5++([v6])) v6 (inc (i:Int))):=RP [.row ((GTask.t q0) b),N2 (b.f4.length:Int),.b true,.row ((GTask.t q0) b),.row (etS hd),.row ((GTask.t q0) m),.b true,.rows ((v5++([v6])).map etI)] (AR (GTask.t q0) c<|ALn b.f4 etS<|AC hb<|AR (GTask.t q0) c<|AR etS l<|AR (GTask.t q0) n<|AC o<|AAp etI (fun _=>rfl) p<|AN);rw[k]at r;cases y<;>exact NO r g
  ·exact(j (i+1) v2_4 v5 e f).mono fun y g=>by have r:rU (kb q0 v1 v2_0 v2_1 v2_2 v2_3 v2_4 a v5 v6 (i:Int)) .normal (kb q0 v1 v2_0 v2_1 v2_2 v2_3 v2_4 a v5 v6 (inc (i:Int))):=RP [.row ((GTask.t q0) b),N2 (b.f4.length:Int),.b true,.row ((GTask.t q0) b),.row (etS hd),.row ((GTask.t q0) m),.b false] (AR (GTask.t q0) c<|ALn b.f4 etS<|AC hb<|AR (GTask.t q0) c<|AR etS l<|AR (GTask.t q0) n<|AC o<|AN);rw[k]at r;cases y<;>exact NO r g
inductive xB where|x0 (v5:List Int)
def oD (q0:Kd)(v1:Int)(v2_0 v2_1:ByteArray)(v2_2 v2_3:Int)(v2_4:Bool)(a:List GTask)(v5:List Int)(v6:Int):US:=stL 48 [(1,NZ v1),(2,.box () [tS v2_0,tS v2_1,tI v2_2,tI v2_3,tB v2_4,.s .far () 5 (a.map (GTask.t q0))]),(5,.one (.s .own () 1 (v5.map etI))),(6,NZ v6)]
def pm (q0:Kd)(a:List Int):US:=stL 48 [(5,.one (.s .own () 1 (a.map etI)))]
abbrev xA:US→Exit→US→Prop:=Round E 61 (aw Tryz.f61 0)
def Gw {q0:Kd}(v1:Int)(v2_0 v2_1:ByteArray)(v2_2 v2_3:Int)(v2_4:Bool)(a:List GTask)(v5:List Int)(v6:Int):xB→Prop| .x0 b=>Loops E 61 (aw Tryz.f61 0) (oD q0 v1 v2_0 v2_1 v2_2 v2_3 v2_4 a v5 v6) (.exit 0) (pm q0 b)
noncomputable def gO (v1:Int)(a:List GTask):List GTask→Nat→Bool→(List Int)→Option xB
 |[],i,v2_4,v5=>some (.x0 v5)
 |hd::rest,i,v2_4,v5=>(ap a v1).bind fun c=>if c.f4.length≤9223372036854775807 then(fJ a (i:Int) c.f4 0 v2_4 v5).bind fun y=>match y with
  | .x2 b=>(gO v1 a rest (i+1) v2_4 b)else none
theorem Gu {q0:Kd}(v1:Int)(v2_0 v2_1:ByteArray)(v2_2 v2_3:Int)(a:List GTask)(rest:List GTask):∀(i:Nat)(v2_4:Bool)(v5:List Int),(a).drop i=rest→a.length≤9223372036854775807→Ans (gO v1 a rest i v2_4 v5) (Gw (q0:=q0) v1 v2_0 v2_1 v2_2 v2_3 v2_4 a v5 (i:Int)):=by
 induction rest with
 |nil =>intro i v2_4 v5 c e;have hb:=bw c;unfold gO;exact NN (NP (show xA (oD q0 v1 v2_0 v2_1 v2_2 v2_3 v2_4 a v5 (i:Int)) (.exit 0) (pm q0 v5)from RP [N2 (a.length:Int),.b false] (ALn a (GTask.t q0)<|AC hb<|AN)) (by intro h;cases h))
 |cons hd rest k =>
  intro i v2_4 v5 c e;have hb:=a8 c;have l:=ba c e;have f:=aG c;have o:=bc c;unfold gO;refine NR (fun j m => ?_);refine NS (fun g => ?_);refine NR (fun y d => ?_);replace d:=Gv (q0:=q0) v1 v2_0 v2_1 v2_2 v2_3 a (i:Int) j m j.f4 0 v2_4 v5 rfl g y d;cases y with
  |x2 b =>have n:=d;exact(k (i+1) v2_4 b f e).mono fun y d=>by have r:xA (oD q0 v1 v2_0 v2_1 v2_2 v2_3 v2_4 a v5 (i:Int)) .normal (oD q0 v1 v2_0 v2_1 v2_2 v2_3 v2_4 a b (inc (i:Int))):=RP [N2 (a.length:Int),.b true,.lp (.exit 2) (pn q0 v1 v2_0 v2_1 v2_2 v2_3 v2_4 a (i:Int) b)] (ALn a (GTask.t q0)<|AC hb<|AL n<|AN);rw[l]at r;cases y<;>exact NO r d
noncomputable def pM (x0:GDag)(b:Int):Option ((List Int)):=
  if x0.f5.length≤9223372036854775807 then(gO b x0.f5 x0.f5 0 x0.f4 ([])).bind fun y=>match y with
   | .x0 a=>(some (a))else none
theorem IH {q0:Kd}(x0:GDag)(b:Int):Ans (pM x0 b) (fun r=>Does E 61 [.agg (GDag.t .far q0 x0),NZ b] [(false,[.s .own () 1 (r.map etI)])]):=by
 unfold pM;refine NS (fun c => ?_);refine NR (fun y d => ?_);replace d:=Gu (q0:=q0) b x0.f0 x0.f1 x0.f2 x0.f3 x0.f5 x0.f5 0 x0.f4 ([]) rfl c y d;cases y with
 |x0 a =>have e:=d;exact NN (DP Tryz.f61 [.lp (.exit 0) (pm q0 a)] (AL e<|AN))
noncomputable def Ls (ts:List GTask)(t:GTask):List Int:=dO (t.f4.map (ar ts))
noncomputable def ups (d:GDag)(i:Int):List Int:=match ap d.f5 i with|some t=>Ls d.f5 t|none=>[]
theorem nN {d:GDag}(h:aR d=true):d.f5.length≤4∧1≤d.f5.length∧dZ d.f5 d.f5 0=true∧dg d.f5∧(dA d.f5).length=d.f5.length:=by
 unfold aR at h;simp only[Ow,PK]at h;obtain⟨_,_,_,_,b,c,e⟩:=h;have a:1≤d.f5.length∧d.f5.length≤4:=by unfold ag at b;simp at b;omega
 exact⟨a.2,a.1,c,tE a.2 c,by omega⟩
theorem zo {ts:List GTask}(h:dZ ts ts 0=true){k:Nat}{t:GTask}(a:ts[k]?=some t):asc t.f0 t.f4 none=true∧∀n∈t.f4,0≤ar ts n:=by have:=pI ts ts 0 rfl h k t (Qm _) a;unfold ic at this;simp only[Ow]at this;exact⟨this.2.2.2.2.1,fun n b=>PL (On.1 this.2.2.2.2.2 n b)⟩
theorem CM (ts:List GTask){a b:ByteArray}(h:tx a=tx b):ar ts a=ar ts b:=by rw[zG h]
theorem uh {ts:List GTask}{n:ByteArray}(h:0≤ar ts n):∃(k:Nat) (t:GTask),ar ts n=(k:Int)∧ts[k]?=some t∧tx t.f0=tx n:=by
 unfold ar at h ⊢;rcases mW n ts 0 with⟨b,_⟩|⟨k,t,c,d,a⟩
 ·rw[b]at h;omega
 ·unfold jo at a;rw[jQ,O4]at a;exact⟨k,t,by rw[c];omega,d,a⟩
theorem uM {l:List Int}(e:l.Nodup):(dO l).Pairwise (· < ·)∧∀x,x∈dO l↔x∈l:=by
 have hs:(dO l).Pairwise (· ≤ ·):=by have:=Q0 (le:=fun x y:Int=>decide (x≤y)) (fun a b c=>by simp;omega) (fun a b=>by simp;omega) l;exact this.imp fun h=>by simpa using h
 have d:(dO l).Perm l:=List.mergeSort_perm l _;have hd:(dO l).Nodup:=d.nodup_iff.2 e;refine⟨?_,fun x=>d.mem_iff⟩;have:=hs.and hd;exact this.imp fun⟨a,b⟩=>by omega
theorem BN {ts:List GTask}{t:GTask}(h:asc t.f0 t.f4 none=true)(f:∀n∈t.f4,0≤ar ts n):(t.f4.map (ar ts)).Nodup:=by
 have c:=(qQ t.f0 t.f4 none h).1;unfold List.Nodup at c ⊢;rw[QV]at c ⊢;refine c.imp_of_mem fun {a b} i l d e => ?_
 obtain⟨k,u,p,m,o⟩:=uh (f a i);obtain⟨j,v,g1,g,g3⟩:=uh (f b l);have:k=j:=by omega
 subst this;rw[m]at g;cases g;exact d (o.symm.trans g3)
def iz (a:List ByteArray):List GTask→Nat→List Int|[],_=>[]|t::r,k=>(a.filter fun n=>n.toList==t.f0.toList).map (fun _=>(k:Int))++iz a r (k+1)
theorem yN {x:ByteArray}:∀{l:List ByteArray},(l.map tx).Nodup→(l.filter fun n=>n.toList==x.toList).length≤1
 |[],_=>by simp
 |y::l,h=>by
  rw[Oq,QG]at h;have a:=yN (x:=x) h.2;rw[Pu];split
  ·rename_i q;rw[jQ,O4]at q;have:l.filter (fun n=>n.toList==x.toList)=[]:=by rw[List.filter_eq_nil_iff];intro z hz e;rw[jQ,O4]at e;exact h.1 (Oo.2 ⟨z,hz,e.trans q.symm⟩)
   rw[this];simp
  ·exact a
theorem zI {f:List ByteArray}(d:(f.map tx).Nodup):∀(l:List GTask)(k:Nat),(iz f l k).Pairwise (· < ·)∧(∀x∈iz f l k,(k:Int)≤x)∧∀x,x∈iz f l k↔∃(j:Nat) (t:GTask),l[j]?=some t∧x=((k+j:Nat):Int)∧∃n∈f,tx n=tx t.f0
 |[],k=>⟨by simp[iz],fun x hx=>by simp[iz]at hx,fun x=>by simp[iz]⟩
 |t::l,k=>by
  obtain⟨m,i,o⟩:=zI d l (k+1);unfold iz;have hf:=yN (x:=t.f0) d;have c:∀x,x∈(f.filter fun n=>n.toList==t.f0.toList).map (fun _=>(k:Int))↔x=(k:Int)∧∃n∈f,tx n=tx t.f0:=fun x=>by
   rw[Oo];constructor
   ·rintro⟨n,g,rfl⟩;rw[PN,jQ,O4]at g;exact⟨rfl,n,g⟩
   ·rintro⟨rfl,n,g⟩;exact⟨n,by rw[PN,jQ,O4];exact g,rfl⟩
  refine⟨?_,fun x hx => ?_,fun x => ?_⟩
  ·rw[QI];refine⟨?_,m,fun a p b hb => ?_⟩
   ·generalize (f.filter fun n=>n.toList==t.f0.toList)=L at hf
    match L,hf with
    |[],_=>simp
    |[y],_=>simp
    |y::z::w,hf=>simp at hf
   ·have:=((c a).1 p).1;have:=i b hb;omega
  ·rcases OD.1 hx with hx|hx
   ·have:=((c x).1 hx).1;omega
   ·have:=i x hx;omega
  ·rw[OD,c,o];constructor
   ·rintro(⟨e,d⟩|⟨j,u,h,q,d⟩)
    ·exact⟨0,t,rfl,by omega,d⟩
    ·exact⟨j+1,u,h,by omega,d⟩
   ·rintro⟨j,u,h,q,d⟩;cases j with
    |zero=>cases h;exact .inl ⟨by omega,d⟩
    |succ j=>exact .inr ⟨j,u,h,by omega,d⟩
theorem Lt {ts:List GTask}(g:dg ts){t:GTask}(d:asc t.f0 t.f4 none=true)(e:∀n∈t.f4,0≤ar ts n):iz t.f4 ts 0=Ls ts t:=by
 obtain⟨h, -,a3⟩:=zI (qQ t.f0 t.f4 none d).1 ts 0;obtain⟨i,l⟩:=uM (BN d e);refine wz h i fun x => ?_
 rw[a3];show _↔x∈dO _;rw[l,Oo];constructor
 ·rintro⟨j,u,b,f,n,a,c⟩;refine⟨n,a,?_⟩;rw[CM ts c,g.2 j u b];omega
 ·rintro⟨n,a,rfl⟩;obtain⟨k,u,b,f,c⟩:=uh (e n a);exact⟨k,u,f,by rw[b];omega,n,a,c.symm⟩
theorem Kz (a b:ByteArray)(c e:Int)(ts:List GTask)(d:ts.length≤1050000):∀(l:List ByteArray)(i:Nat)(z:Bool)(v:List Int),v.length+l.length≤2000000→kI a b c e ts l i z v=some (.x0 (v++l.map (ar ts)))
 |[],i,z,v,_=>by unfold kI;simp
 |n::l,i,z,v,f=>by simp only[OI]at f;unfold kI;rw[N5 (show(GDag.mk a b c e z ts).f5.length≤1050000 from d),N5 (by simp;omega),Kz a b c e ts d l (i+1) z _ (by simp;omega)];simp[bL]
theorem MP (d:GDag)(i:Int)(h:ae.sm d)(hi:0≤i∧i<(d.f5.length:Int)):wH d i=some (ups d i):=by have hs:ae.sm d.f5:=h.2.2;obtain⟨t,a,b⟩:=fi hi;have c:t.f4.length≤1050000:=(hs.2 t b).2.2.1;unfold wH ups;rw[a,N4,N5 (by omega),Kz _ _ _ _ _ hs.1 _ _ _ _ (by simp;omega),N4];simp only[OE];rw[N5 (by rw[OF];omega)];rfl
theorem Ff (ts:List GTask)(k:Nat)(u:GTask)(a:ts[k]?=some u):∀(l:List ByteArray)(i:Nat)(z:Bool)(v:List Int),v.length+l.length≤8000000→fJ ts (k:Int) l i z v=some (.x2 (v++(l.filter fun n=>n.toList==u.f0.toList).map fun _=>(k:Int)))
 |[],i,z,v,_=>by unfold fJ;simp
 |n::l,i,z,v,b=>by
  simp only[OI]at b;have c:ap ts (k:Int)=some u:=by rw[ex];exact a
  unfold fJ;rw[c,N4,Pu];cases n.toList==u.f0.toList with
  |true=>rw[Om,N5 (by simp;omega),Ff ts k u a l (i+1) z _ (by simp;omega)];simp
  |false=>rw[Ou,Ff ts k u a l (i+1) z v (by omega)];simp
theorem Ky (ts:List GTask)(i:Int)(t:GTask)(b:ap ts i=some t)(c:t.f4.length≤1050000)(a:ts.length≤4):∀(l:List GTask)(k:Nat)(z:Bool)(v:List Int),ts.drop k=l→v.length+l.length*1050000≤6000000→gO i ts l k z v=some (.x0 (v++iz t.f4 l k))
 |[],k,z,v,_,_=>by unfold gO iz;rw[OC]
 |u::l,k,z,v,hd,hv=>by
  have d:ts[k]?=some u:=by rw[←Qn,hd];rfl
  simp only[OI]at hv;have hf:=List.length_filter_le (fun n:ByteArray=>n.toList==u.f0.toList) t.f4;unfold gO iz;rw[b,N4,N5 (by omega),Ff ts k u d _ _ _ _ (by omega),N4];simp only;rw[Ky ts i t b c a l (k+1) z _ (aG hd) (by simp;omega),PW]
theorem MQ (d:GDag)(i:Int)(h:ae.sm d)(hd:aR d=true)(hi:0≤i∧i<(d.f5.length:Int)):pM d i=some (ups d i):=by obtain⟨c, -,e,a, -⟩:=nN hd;have hs:ae.sm d.f5:=h.2.2;obtain⟨t,b,f⟩:=fi hi;have hf:t.f4.length≤1050000:=(hs.2 t f).2.2.1;obtain⟨l,g⟩:=mJ b;obtain⟨j,k⟩:=zo e g;unfold pM ups;rw[N5 (by omega),b,Ky d.f5 i t b hf c d.f5 0 d.f4 [] rfl (by simp;omega),N4];simp only[OE];rw[Lt a j k]
theorem MG {d:GDag}{i:Int}(hd:aR d=true)(hi:0≤i∧i<(d.f5.length:Int)):(∀x∈ups d i,0≤x∧x<(d.f5.length:Int))∧(ups d i).length≤4:=by
 obtain⟨p, -,g,j, -⟩:=nN hd;obtain⟨t,b,c⟩:=fi hi;obtain⟨q,k⟩:=mJ b;obtain⟨l,f⟩:=zo g k;have e:ups d i=Ls d.f5 t:=by unfold ups;rw[b]
 obtain⟨m,o⟩:=uM (BN l f);have a:∀x∈ups d i,0≤x∧x<(d.f5.length:Int):=fun x a=>by rw[e]at a;obtain⟨n,c,rfl⟩:=Oo.1 ((o x).1 a);exact⟨f n c,(IP d.f5 n).2⟩
 refine⟨a,?_⟩;have:=tZ 0 ((d.f5.length:Int)-1) (ups d i) 0 (by rw[e];exact m) (fun x h=>by have:=a x h;omega) (by omega);omega
theorem GL {q0:Kd}(x0:GDag)(a:Int)(h:ae.sm x0)(hd:aR x0=true)(hi:0≤a∧a<(x0.f5.length:Int)):Does E 87 [.agg (GDag.t .far q0 x0),NZ a] [(false,[.s .own () 1 ((ups x0 a).map etI)])]:=by exact LU x0 a _ (MP x0 a h hi)
theorem Hr {q0:Kd}(x0:GDag)(a:Int)(h:ae.sm x0)(hd:aR x0=true)(hi:0≤a∧a<(x0.f5.length:Int)):Does E 61 [.agg (GDag.t .far q0 x0),NZ a] [(false,[.s .own () 1 ((ups x0 a).map etI)])]:=by exact IH x0 a _ (MQ x0 a h hd hi)
noncomputable def yY (x0:GDag)(a:Int):Option (Bool):=some (ag a 0 (IntKind.wrap .i64 ((x0.f5.length:Int)-(1:Int))))
theorem Ia {q0:Kd}(x0:GDag)(a:Int):Ans (yY x0 a) (fun r=>Does E 25 [.agg (GDag.t .far q0 x0),NZ a] [NX r]):=by unfold yY;exact NN (DP Tryz.f25 [N2 (x0.f5.length:Int),.ret [NX (ag a 0 (IntKind.wrap .i64 ((x0.f5.length:Int)-(1:Int))))]] (ALn x0.f5 (GTask.t q0)<|AD (ay a 0 (IntKind.wrap .i64 ((x0.f5.length:Int)-(1:Int))))<|AN))
def oO (d:GDag)(i:Int):Bool:=ag i 0 (IntKind.wrap .i64 ((d.f5.length:Int)-1))
theorem Bt {d:GDag}{i:Int}(h:oO d i=true)(hs:ae.sm d):0≤i∧i<(d.f5.length:Int):=F4 h hs.2.2.1
theorem mR {q0:Kd}(x0:GDag)(a:Int):Does E 25 [.agg (GDag.t .far q0 x0),NZ a] [NX (oO x0 a)]:=by exact Ia x0 a _ rfl
end
end Go.Proofs.YtkgecjmfkcohkaaGreatDoor.Am
