/- What stands above a task. -/
import Derived.Test.YtjlkcjlcmaoccaaGreatDoorPlans
namespace Go.Proofs.YtjlkcjlcmaoccaaGreatDoor.Am
open Go
set_option linter.unusedVariables false
set_option linter.unusedSimpArgs false
section
open Go.Proofs Classical
set_option maxRecDepth 100000
inductive E1 where|x0 (v5:List Int)
def uy (q0:Kd)(v2_0 v2_1:ByteArray)(v2_2 v2_3:Int)(v2_4:Bool)(a:List GTask)(v5:List Int)(b:List ByteArray)(c d:Int):US:=stL 29 [(2,.box () [tS v2_0,tS v2_1,tI v2_2,tI v2_3,tB v2_4,.s .far () 5 (a.map (GTask.t q0))]),(5,.one (.s .own () 1 (v5.map etI))),(13,.one (.s .far () 1 (b.map etS))),(14,O0 c),(15,O0 d)]
def ux (q0:Kd)(a:List Int):US:=stL 29 [(5,.one (.s .own () 1 (a.map etI)))]
abbrev E0:US→Exit→US→Prop:=Round E 49 (av Tryz.f49 0)
def Md {q0:Kd}(v2_0 v2_1:ByteArray)(v2_2 v2_3:Int)(v2_4:Bool)(a:List GTask)(v5:List Int)(b:List ByteArray)(c d:Int):E1→Prop| .x0 e=>Loops E 49 (av Tryz.f49 0) (uy q0 v2_0 v2_1 v2_2 v2_3 v2_4 a v5 b c d) (.exit 0) (ux q0 e)
noncomputable def ld (v2_0 v2_1:ByteArray)(v2_2 v2_3:Int)(a:List GTask):List ByteArray→Nat→Bool→(List Int)→Option E1|[],i,v2_4,v5=>some (.x0 v5)|hd::rest,i,v2_4,v5=>if(GDag.mk v2_0 v2_1 v2_2 v2_3 v2_4 a).f5.length≤1050000 then if(v5.length+([bL (GDag.mk v2_0 v2_1 v2_2 v2_3 v2_4 a) hd]).length)*8≤140737488355328∧v5.length+([bL (GDag.mk v2_0 v2_1 v2_2 v2_3 v2_4 a) hd]).length≤4611686018427387904 then ld v2_0 v2_1 v2_2 v2_3 a rest (i+1) v2_4 (v5++([bL (GDag.mk v2_0 v2_1 v2_2 v2_3 v2_4 a) hd]))else none else none
theorem Mc {q0:Kd}(v2_0 v2_1:ByteArray)(v2_2 v2_3:Int)(a:List GTask)(b:List ByteArray)(rest:List ByteArray):∀(i:Nat)(v2_4:Bool)(v5:List Int),(b).drop i=rest→b.length≤9223372036854775807→Ans (ld v2_0 v2_1 v2_2 v2_3 a rest i v2_4 v5) (Md (q0:=q0) v2_0 v2_1 v2_2 v2_3 v2_4 a v5 b (b.length:Int) (i:Int)):=by
 induction rest with
 |nil =>intro i v2_4 v5 c d;have hb:=aZ c;unfold ld;exact OO (OQ (show E0 (uy q0 v2_0 v2_1 v2_2 v2_3 v2_4 a v5 b (b.length:Int) (i:Int)) (.exit 0) (ux q0 v5)from RP [.b false] (AC hb<|AN)) (by intro h;cases h))
 |cons hd rest f =>intro i v2_4 v5 c d;have hb:=aT c;have g:=aU c d;have e:=aE c;have j:=aW c;unfold ld;refine OT (fun l => ?_);refine OT (fun m => ?_);exact(f (i+1) v2_4 (v5++([bL (GDag.mk v2_0 v2_1 v2_2 v2_3 v2_4 a) hd])) e d).mono fun y n=>by have r:E0 (uy q0 v2_0 v2_1 v2_2 v2_3 v2_4 a v5 b (b.length:Int) (i:Int)) .normal (uy q0 v2_0 v2_1 v2_2 v2_3 v2_4 a (v5++([bL (GDag.mk v2_0 v2_1 v2_2 v2_3 v2_4 a) hd])) b (b.length:Int) (inc (i:Int))):=RP [.b true,.row (etS hd),.ret [OX (bL (GDag.mk v2_0 v2_1 v2_2 v2_3 v2_4 a) hd)],.rows ((v5++([bL (GDag.mk v2_0 v2_1 v2_2 v2_3 v2_4 a) hd])).map etI)] (AC hb<|AR etS j<|AV (ψ:=fun k=>E.C k 70 [.agg (GDag.t .far q0 (GDag.mk v2_0 v2_1 v2_2 v2_3 v2_4 a)),O2 hd]=some [OX (bL (GDag.mk v2_0 v2_1 v2_2 v2_3 v2_4 a) hd)]) (fK (GDag.mk v2_0 v2_1 v2_2 v2_3 v2_4 a) hd l)<|AAp etI (fun _=>rfl) m<|AN);rw[g]at r;cases y<;>exact OP r n
noncomputable def xr (x0:GDag)(c:Int):Option ((List Int)):=
  (am x0.f5 c).bind fun b=>if b.f4.length≤9223372036854775807 then(ld x0.f0 x0.f1 x0.f2 x0.f3 x0.f5 b.f4 0 x0.f4 ([])).bind fun y=>match y with
   | .x0 a=>(if a.length<4611686018427387904 then some (cJ a)else none)else none
theorem MU {q0:Kd}(x0:GDag)(e:Int):Ans (xr x0 e) (fun r=>Does E 49 [.agg (GDag.t .far q0 x0),O0 e] [(false,[.s .own () 1 (r.map etI)])]):=by
 unfold xr;refine OS (fun b f => ?_);refine OT (fun c => ?_);refine OS (fun y d => ?_);replace d:=Mc (q0:=q0) x0.f0 x0.f1 x0.f2 x0.f3 x0.f5 b.f4 b.f4 0 x0.f4 ([]) rfl c y d;cases y with
 |x0 a =>have g:=d;refine OT (fun h => ?_);exact OO (DP Tryz.f49 [.row ((GTask.t q0) b),O3 (b.f4.length:Int),.lp (.exit 0) (ux q0 a),.ret [(false,[.s .own () 1 ((cJ a).map etI)])]] (AR (GTask.t q0) f<|ALn b.f4 etS<|AL g<|AC (p:=(a.map etI).length=(a.map etI).length) rfl<|AV (ψ:=fun k=>E.C k 52 [.one (.s .own () 1 (a.map etI))]=some [(false,[.s .own () 1 ((cJ a).map etI)])]) (mb a h)<|AN))
inductive yi where|x2 (v5:List Int)
def kF (q0:Kd)(v1:Int)(v2_0 v2_1:ByteArray)(v2_2 v2_3:Int)(v2_4:Bool)(a:List GTask)(v5:List Int)(v6 v7:Int):US:=stL 48 [(1,O0 v1),(2,.box () [tS v2_0,tS v2_1,tI v2_2,tI v2_3,tB v2_4,.s .far () 5 (a.map (GTask.t q0))]),(5,.one (.s .own () 1 (v5.map etI))),(6,O0 v6),(7,O0 v7)]
def pX (q0:Kd)(v1:Int)(v2_0 v2_1:ByteArray)(v2_2 v2_3:Int)(v2_4:Bool)(a:List GTask)(v6:Int)(b:List Int):US:=stL 48 [(1,O0 v1),(2,.box () [tS v2_0,tS v2_1,tI v2_2,tI v2_3,tB v2_4,.s .far () 5 (a.map (GTask.t q0))]),(5,.one (.s .own () 1 (b.map etI))),(6,O0 v6)]
abbrev sO:US→Exit→US→Prop:=Round E 42 (av Tryz.f42 1)
def Hz {q0:Kd}(v1:Int)(v2_0 v2_1:ByteArray)(v2_2 v2_3:Int)(v2_4:Bool)(a:List GTask)(v5:List Int)(v6 v7:Int):yi→Prop| .x2 b=>Loops E 42 (av Tryz.f42 1) (kF q0 v1 v2_0 v2_1 v2_2 v2_3 v2_4 a v5 v6 v7) (.exit 2) (pX q0 v1 v2_0 v2_1 v2_2 v2_3 v2_4 a v6 b)
noncomputable def fR (a:List GTask)(v6:Int):List ByteArray→Nat→Bool→(List Int)→Option yi|[],i,v2_4,v5=>some (.x2 v5)|hd::rest,i,v2_4,v5=>(am a v6).bind fun b=>cond (hd.toList==b.f0.toList) (if(v5.length+([v6]).length)*8≤140737488355328∧v5.length+([v6]).length≤4611686018427387904 then fR a v6 rest (i+1) v2_4 (v5++([v6]))else none) (fR a v6 rest (i+1) v2_4 v5)
theorem Hx {q0:Kd}(v1:Int)(v2_0 v2_1:ByteArray)(v2_2 v2_3:Int)(a:List GTask)(v6:Int)(b:GTask)(c:am a v1=some b)(rest:List ByteArray):∀(i:Nat)(v2_4:Bool)(v5:List Int),(b.f4).drop i=rest→b.f4.length≤9223372036854775807→Ans (fR a v6 rest i v2_4 v5) (Hz (q0:=q0) v1 v2_0 v2_1 v2_2 v2_3 v2_4 a v5 v6 (i:Int)):=by
 induction rest with
 |nil =>intro i v2_4 v5 d f;have hb:=aZ d;unfold fR;exact OO (OQ (show sO (kF q0 v1 v2_0 v2_1 v2_2 v2_3 v2_4 a v5 v6 (i:Int)) (.exit 2) (pX q0 v1 v2_0 v2_1 v2_2 v2_3 v2_4 a v6 v5)from RP [.row ((GTask.t q0) b),O3 (b.f4.length:Int),.b false] (AR (GTask.t q0) c<|ALn b.f4 etS<|AC hb<|AN)) (by intro h;cases h))
 |cons hd rest j =>
  intro i v2_4 v5 d f;have hb:=aT d;have k:=aU d f;have e:=aE d;have l:=aW d;unfold fR;refine OS (fun m n => ?_);apply OR<;>intro o
  ·refine OT (fun p => ?_);exact(j (i+1) v2_4 (v5++([v6])) e f).mono fun y g=>by have r:sO (kF q0 v1 v2_0 v2_1 v2_2 v2_3 v2_4 a v5 v6 (i:Int)) .normal (kF q0 v1 v2_0 v2_1 v2_2 v2_3 v2_4 a (v5++([v6])) v6 (inc (i:Int))):=RP [.row ((GTask.t q0) b),O3 (b.f4.length:Int),.b true,.row ((GTask.t q0) b),.row (etS hd),.row ((GTask.t q0) m),.b true,.rows ((v5++([v6])).map etI)] (AR (GTask.t q0) c<|ALn b.f4 etS<|AC hb<|AR (GTask.t q0) c<|AR etS l<|AR (GTask.t q0) n<|AC o<|AAp etI (fun _=>rfl) p<|AN);rw[k]at r;cases y<;>exact OP r g
  ·exact(j (i+1) v2_4 v5 e f).mono fun y g=>by have r:sO (kF q0 v1 v2_0 v2_1 v2_2 v2_3 v2_4 a v5 v6 (i:Int)) .normal (kF q0 v1 v2_0 v2_1 v2_2 v2_3 v2_4 a v5 v6 (inc (i:Int))):=RP [.row ((GTask.t q0) b),O3 (b.f4.length:Int),.b true,.row ((GTask.t q0) b),.row (etS hd),.row ((GTask.t q0) m),.b false] (AR (GTask.t q0) c<|ALn b.f4 etS<|AC hb<|AR (GTask.t q0) c<|AR etS l<|AR (GTask.t q0) n<|AC o<|AN);rw[k]at r;cases y<;>exact OP r g
inductive yh where|x0 (v5:List Int)
def pj (q0:Kd)(v1:Int)(v2_0 v2_1:ByteArray)(v2_2 v2_3:Int)(v2_4:Bool)(a:List GTask)(v5:List Int)(v6:Int):US:=stL 48 [(1,O0 v1),(2,.box () [tS v2_0,tS v2_1,tI v2_2,tI v2_3,tB v2_4,.s .far () 5 (a.map (GTask.t q0))]),(5,.one (.s .own () 1 (v5.map etI))),(6,O0 v6)]
def pW (q0:Kd)(a:List Int):US:=stL 48 [(5,.one (.s .own () 1 (a.map etI)))]
abbrev yg:US→Exit→US→Prop:=Round E 42 (av Tryz.f42 0)
def Hy {q0:Kd}(v1:Int)(v2_0 v2_1:ByteArray)(v2_2 v2_3:Int)(v2_4:Bool)(a:List GTask)(v5:List Int)(v6:Int):yh→Prop| .x0 b=>Loops E 42 (av Tryz.f42 0) (pj q0 v1 v2_0 v2_1 v2_2 v2_3 v2_4 a v5 v6) (.exit 0) (pW q0 b)
noncomputable def gW (v1:Int)(a:List GTask):List GTask→Nat→Bool→(List Int)→Option yh
 |[],i,v2_4,v5=>some (.x0 v5)
 |hd::rest,i,v2_4,v5=>(am a v1).bind fun c=>if c.f4.length≤9223372036854775807 then(fR a (i:Int) c.f4 0 v2_4 v5).bind fun y=>match y with
  | .x2 b=>(gW v1 a rest (i+1) v2_4 b)else none
theorem Hw {q0:Kd}(v1:Int)(v2_0 v2_1:ByteArray)(v2_2 v2_3:Int)(a:List GTask)(rest:List GTask):∀(i:Nat)(v2_4:Bool)(v5:List Int),(a).drop i=rest→a.length≤9223372036854775807→Ans (gW v1 a rest i v2_4 v5) (Hy (q0:=q0) v1 v2_0 v2_1 v2_2 v2_3 v2_4 a v5 (i:Int)):=by
 induction rest with
 |nil =>intro i v2_4 v5 c e;have hb:=aZ c;unfold gW;exact OO (OQ (show yg (pj q0 v1 v2_0 v2_1 v2_2 v2_3 v2_4 a v5 (i:Int)) (.exit 0) (pW q0 v5)from RP [O3 (a.length:Int),.b false] (ALn a (GTask.t q0)<|AC hb<|AN)) (by intro h;cases h))
 |cons hd rest k =>
  intro i v2_4 v5 c e;have hb:=aT c;have l:=aU c e;have f:=aE c;have o:=aW c;unfold gW;refine OS (fun j m => ?_);refine OT (fun g => ?_);refine OS (fun y d => ?_);replace d:=Hx (q0:=q0) v1 v2_0 v2_1 v2_2 v2_3 a (i:Int) j m j.f4 0 v2_4 v5 rfl g y d;cases y with
  |x2 b =>have n:=d;exact(k (i+1) v2_4 b f e).mono fun y d=>by have r:yg (pj q0 v1 v2_0 v2_1 v2_2 v2_3 v2_4 a v5 (i:Int)) .normal (pj q0 v1 v2_0 v2_1 v2_2 v2_3 v2_4 a b (inc (i:Int))):=RP [O3 (a.length:Int),.b true,.lp (.exit 2) (pX q0 v1 v2_0 v2_1 v2_2 v2_3 v2_4 a (i:Int) b)] (ALn a (GTask.t q0)<|AC hb<|AL n<|AN);rw[l]at r;cases y<;>exact OP r d
noncomputable def qr (x0:GDag)(b:Int):Option ((List Int)):=
  if x0.f5.length≤9223372036854775807 then(gW b x0.f5 x0.f5 0 x0.f4 ([])).bind fun y=>match y with
   | .x0 a=>(some (a))else none
theorem JN {q0:Kd}(x0:GDag)(b:Int):Ans (qr x0 b) (fun r=>Does E 42 [.agg (GDag.t .far q0 x0),O0 b] [(false,[.s .own () 1 (r.map etI)])]):=by
 unfold qr;refine OT (fun c => ?_);refine OS (fun y d => ?_);replace d:=Hw (q0:=q0) b x0.f0 x0.f1 x0.f2 x0.f3 x0.f5 x0.f5 0 x0.f4 ([]) rfl c y d;cases y with
 |x0 a =>have e:=d;exact OO (DP Tryz.f42 [.lp (.exit 0) (pW q0 a)] (AL e<|AN))
noncomputable def Ms (ts:List GTask)(t:GTask):List Int:=cJ (t.f4.map (ar ts))
noncomputable def ups (d:GDag)(i:Int):List Int:=match am d.f5 i with|some t=>Ms d.f5 t|none=>[]
theorem oz {d:GDag}(h:aN d=true):d.f5.length≤4∧1≤d.f5.length∧eh d.f5 d.f5 0=true∧cG d.f5∧(bW d.f5).length=d.f5.length:=by
 unfold aN at h;simp only[PA,QM]at h;obtain⟨_,_,_,_,b,c,e⟩:=h;have a:1≤d.f5.length∧d.f5.length≤4:=by unfold ah at b;simp at b;omega
 exact⟨a.2,a.1,c,up a.2 c,by omega⟩
theorem Ai {ts:List GTask}(h:eh ts ts 0=true){k:Nat}{t:GTask}(a:ts[k]?=some t):asc t.f0 t.f4 none=true∧∀n∈t.f4,0≤ar ts n:=by have:=uJ ts ts 0 rfl h k t (Rp _) a;unfold jh at this;simp only[PA]at this;exact⟨this.2.2.2.2.1,fun n b=>QN (Ps.1 this.2.2.2.2.2 n b)⟩
theorem DK (ts:List GTask){a b:ByteArray}(h:tx a=tx b):ar ts a=ar ts b:=by rw[Ay h]
theorem uV {ts:List GTask}{n:ByteArray}(h:0≤ar ts n):∃(k:Nat) (t:GTask),ar ts n=(k:Int)∧ts[k]?=some t∧tx t.f0=tx n:=by
 unfold ar at h ⊢;rcases nC n ts 0 with⟨b,_⟩|⟨k,t,c,d,a⟩
 ·rw[b]at h;omega
 ·unfold jH at a;rw[ko,P9]at a;exact⟨k,t,by rw[c];omega,d,a⟩
theorem pY {l:List Int}(e:l.Nodup):(cJ l).Pairwise (· < ·)∧∀x,x∈cJ l↔x∈l:=by
 have hs:(cJ l).Pairwise (· ≤ ·):=by have:=R9 (le:=fun x y:Int=>decide (x≤y)) (fun a b c=>by simp;omega) (fun a b=>by simp;omega) l;exact this.imp fun h=>by simpa using h
 have d:(cJ l).Perm l:=List.mergeSort_perm l _;have hd:(cJ l).Nodup:=d.nodup_iff.2 e;refine⟨?_,fun x=>d.mem_iff⟩;have:=hs.and hd;exact this.imp fun⟨a,b⟩=>by omega
theorem CH {ts:List GTask}{t:GTask}(h:asc t.f0 t.f4 none=true)(f:∀n∈t.f4,0≤ar ts n):(t.f4.map (ar ts)).Nodup:=by
 have c:=(rC t.f0 t.f4 none h).1;unfold List.Nodup at c ⊢;rw[RZ]at c ⊢;refine c.imp_of_mem fun {a b} i l d e => ?_
 obtain⟨k,u,p,m,o⟩:=uV (f a i);obtain⟨j,v,g1,g,g3⟩:=uV (f b l);have:k=j:=by omega
 subst this;rw[m]at g;cases g;exact d (o.symm.trans g3)
def iJ (a:List ByteArray):List GTask→Nat→List Int|[],_=>[]|t::r,k=>(a.filter fun n=>n.toList==t.f0.toList).map (fun _=>(k:Int))++iJ a r (k+1)
theorem zA {x:ByteArray}:∀{l:List ByteArray},(l.map tx).Nodup→(l.filter fun n=>n.toList==x.toList).length≤1
 |[],_=>by simp
 |y::l,h=>by
  rw[Pv,RK]at h;have a:=zA (x:=x) h.2;rw[Qy];split
  ·rename_i q;rw[ko,P9]at q;have:l.filter (fun n=>n.toList==x.toList)=[]:=by rw[List.filter_eq_nil_iff];intro z hz e;rw[ko,P9]at e;exact h.1 (Pu.2 ⟨z,hz,e.trans q.symm⟩)
   rw[this];simp
  ·exact a
theorem AA {f:List ByteArray}(d:(f.map tx).Nodup):∀(l:List GTask)(k:Nat),(iJ f l k).Pairwise (· < ·)∧(∀x∈iJ f l k,(k:Int)≤x)∧∀x,x∈iJ f l k↔∃(j:Nat) (t:GTask),l[j]?=some t∧x=((k+j:Nat):Int)∧∃n∈f,tx n=tx t.f0
 |[],k=>⟨by simp[iJ],fun x hx=>by simp[iJ]at hx,fun x=>by simp[iJ]⟩
 |t::l,k=>by
  obtain⟨m,i,o⟩:=AA d l (k+1);unfold iJ;have hf:=zA (x:=t.f0) d;have c:∀x,x∈(f.filter fun n=>n.toList==t.f0.toList).map (fun _=>(k:Int))↔x=(k:Int)∧∃n∈f,tx n=tx t.f0:=fun x=>by
   rw[Pu];constructor
   ·rintro⟨n,g,rfl⟩;rw[QO,ko,P9]at g;exact⟨rfl,n,g⟩
   ·rintro⟨rfl,n,g⟩;exact⟨n,by rw[QO,ko,P9];exact g,rfl⟩
  refine⟨?_,fun x hx => ?_,fun x => ?_⟩
  ·rw[Ro];refine⟨?_,m,fun a p b hb => ?_⟩
   ·generalize (f.filter fun n=>n.toList==t.f0.toList)=L at hf
    match L,hf with
    |[],_=>simp
    |[y],_=>simp
    |y::z::w,hf=>simp at hf
   ·have:=((c a).1 p).1;have:=i b hb;omega
  ·rcases PE.1 hx with hx|hx
   ·have:=((c x).1 hx).1;omega
   ·have:=i x hx;omega
  ·rw[PE,c,o];constructor
   ·rintro(⟨e,d⟩|⟨j,u,h,q,d⟩)
    ·exact⟨0,t,rfl,by omega,d⟩
    ·exact⟨j+1,u,h,by omega,d⟩
   ·rintro⟨j,u,h,q,d⟩;cases j with
    |zero=>cases h;exact .inl ⟨by omega,d⟩
    |succ j=>exact .inr ⟨j,u,h,by omega,d⟩
theorem Mt {ts:List GTask}(g:cG ts){t:GTask}(d:asc t.f0 t.f4 none=true)(e:∀n∈t.f4,0≤ar ts n):iJ t.f4 ts 0=Ms ts t:=by
 obtain⟨h, -,a3⟩:=AA (rC t.f0 t.f4 none d).1 ts 0;obtain⟨i,l⟩:=pY (CH d e);refine r6 h i fun x => ?_
 rw[a3];show _↔x∈cJ _;rw[l,Pu];constructor
 ·rintro⟨j,u,b,f,n,a,c⟩;refine⟨n,a,?_⟩;rw[DK ts c,g.2 j u b];omega
 ·rintro⟨n,a,rfl⟩;obtain⟨k,u,b,f,c⟩:=uV (e n a);exact⟨k,u,f,by rw[b];omega,n,a,c.symm⟩
theorem Ly (a b:ByteArray)(c e:Int)(ts:List GTask)(d:ts.length≤1050000):∀(l:List ByteArray)(i:Nat)(z:Bool)(v:List Int),v.length+l.length≤2000000→ld a b c e ts l i z v=some (.x0 (v++l.map (ar ts)))
 |[],i,z,v,_=>by unfold ld;simp
 |n::l,i,z,v,f=>by simp only[PH]at f;unfold ld;rw[O6 (show(GDag.mk a b c e z ts).f5.length≤1050000 from d),O6 (by simp;omega),Ly a b c e ts d l (i+1) z _ (by simp;omega)];simp[bL]
theorem NM (d:GDag)(i:Int)(h:ae.sm d)(hi:0≤i∧i<(d.f5.length:Int)):xr d i=some (ups d i):=by have hs:ae.sm d.f5:=h.2.2;obtain⟨t,a,b⟩:=eO hi;have c:t.f4.length≤1050000:=(hs.2 t b).2.2.1;unfold xr ups;rw[a,O5,O6 (by omega),Ly _ _ _ _ _ hs.1 _ _ _ _ (by simp;omega),O5];simp only[PG];rw[O6 (by rw[PI];omega)];rfl
theorem Gk (ts:List GTask)(k:Nat)(u:GTask)(a:ts[k]?=some u):∀(l:List ByteArray)(i:Nat)(z:Bool)(v:List Int),v.length+l.length≤8000000→fR ts (k:Int) l i z v=some (.x2 (v++(l.filter fun n=>n.toList==u.f0.toList).map fun _=>(k:Int)))
 |[],i,z,v,_=>by unfold fR;simp
 |n::l,i,z,v,b=>by
  simp only[PH]at b;have c:am ts (k:Int)=some u:=by rw[dZ];exact a
  unfold fR;rw[c,O5,Qy];cases n.toList==u.f0.toList with
  |true=>rw[Pk,O6 (by simp;omega),Gk ts k u a l (i+1) z _ (by simp;omega)];simp
  |false=>rw[Pt,Gk ts k u a l (i+1) z v (by omega)];simp
theorem Lx (ts:List GTask)(i:Int)(t:GTask)(b:am ts i=some t)(c:t.f4.length≤1050000)(a:ts.length≤4):∀(l:List GTask)(k:Nat)(z:Bool)(v:List Int),ts.drop k=l→v.length+l.length*1050000≤6000000→gW i ts l k z v=some (.x0 (v++iJ t.f4 l k))
 |[],k,z,v,_,_=>by unfold gW iJ;rw[PF]
 |u::l,k,z,v,hd,hv=>by
  have d:ts[k]?=some u:=by rw[←Rg,hd];rfl
  simp only[PH]at hv;have hf:=List.length_filter_le (fun n:ByteArray=>n.toList==u.f0.toList) t.f4;unfold gW iJ;rw[b,O5,O6 (by omega),Gk ts k u d _ _ _ _ (by omega),O5];simp only;rw[Lx ts i t b c a l (k+1) z _ (aE hd) (by simp;omega),QX]
theorem NN (d:GDag)(i:Int)(h:ae.sm d)(hd:aN d=true)(hi:0≤i∧i<(d.f5.length:Int)):qr d i=some (ups d i):=by obtain⟨c, -,e,a, -⟩:=oz hd;have hs:ae.sm d.f5:=h.2.2;obtain⟨t,b,f⟩:=eO hi;have hf:t.f4.length≤1050000:=(hs.2 t f).2.2.1;obtain⟨l,g⟩:=jO b;obtain⟨j,k⟩:=Ai e g;unfold qr ups;rw[O6 (by omega),b,Lx d.f5 i t b hf c d.f5 0 d.f4 [] rfl (by simp;omega),O5];simp only[PG];rw[Mt a j k]
theorem Lw {d:GDag}{i:Int}(hd:aN d=true)(hi:0≤i∧i<(d.f5.length:Int)):(∀x∈ups d i,0≤x∧x<(d.f5.length:Int))∧(ups d i).length≤4:=by
 obtain⟨p, -,g,j, -⟩:=oz hd;obtain⟨t,b,c⟩:=eO hi;obtain⟨q,k⟩:=jO b;obtain⟨l,f⟩:=Ai g k;have e:ups d i=Ms d.f5 t:=by unfold ups;rw[b]
 obtain⟨m,o⟩:=pY (CH l f);have a:∀x∈ups d i,0≤x∧x<(d.f5.length:Int):=fun x a=>by rw[e]at a;obtain⟨n,c,rfl⟩:=Pu.1 ((o x).1 a);exact⟨f n c,(JU d.f5 n).2⟩
 refine⟨a,?_⟩;have:=uK 0 ((d.f5.length:Int)-1) (ups d i) 0 (by rw[e];exact m) (fun x h=>by have:=a x h;omega) (by omega);omega
theorem AI {q0:Kd}(x0:GDag)(a:Int)(h:ae.sm x0)(hd:aN x0=true)(hi:0≤a∧a<(x0.f5.length:Int)):Does E 49 [.agg (GDag.t .far q0 x0),O0 a] [(false,[.s .own () 1 ((ups x0 a).map etI)])]:=by exact MU x0 a _ (NM x0 a h hi)
theorem zf {q0:Kd}(x0:GDag)(a:Int)(h:ae.sm x0)(hd:aN x0=true)(hi:0≤a∧a<(x0.f5.length:Int)):Does E 42 [.agg (GDag.t .far q0 x0),O0 a] [(false,[.s .own () 1 ((ups x0 a).map etI)])]:=by exact JN x0 a _ (NN x0 a h hd hi)
noncomputable def zO (x0:GDag)(a:Int):Option (Bool):=some (ah a 0 (IntKind.wrap .i64 ((x0.f5.length:Int)-(1:Int))))
theorem Ji {q0:Kd}(x0:GDag)(a:Int):Ans (zO x0 a) (fun r=>Does E 26 [.agg (GDag.t .far q0 x0),O0 a] [OY r]):=by unfold zO;exact OO (DP Tryz.f26 [O3 (x0.f5.length:Int),.ret [OY (ah a 0 (IntKind.wrap .i64 ((x0.f5.length:Int)-(1:Int))))]] (ALn x0.f5 (GTask.t q0)<|AD (aA a 0 (IntKind.wrap .i64 ((x0.f5.length:Int)-(1:Int))))<|AN))
def lg (d:GDag)(i:Int):Bool:=ah i 0 (IntKind.wrap .i64 ((d.f5.length:Int)-1))
theorem Co {d:GDag}{i:Int}(h:lg d i=true)(hs:ae.sm d):0≤i∧i<(d.f5.length:Int):=G7 h hs.2.2.1
theorem nw {q0:Kd}(x0:GDag)(a:Int):Does E 26 [.agg (GDag.t .far q0 x0),O0 a] [OY (lg x0 a)]:=by exact Ji x0 a _ rfl
end
end Go.Proofs.YtjlkcjlcmaoccaaGreatDoor.Am
