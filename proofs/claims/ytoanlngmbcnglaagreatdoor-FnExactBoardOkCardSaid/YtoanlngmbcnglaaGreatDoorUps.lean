/- What stands above a task. -/
import Derived.Test.YtoanlngmbcnglaaGreatDoorPlans
namespace Go.Proofs.YtoanlngmbcnglaaGreatDoor.Am
open Go
set_option linter.unusedVariables false
set_option linter.unusedSimpArgs false
section
open Go.Proofs Classical
set_option maxRecDepth 100000
inductive IX where|x0 (v5:List Int)
def xe (q0:Kd)(v2_0 v2_1:ByteArray)(v2_2 v2_3:Int)(v2_4:Bool)(a:List GTask)(v5:List Int)(b:List ByteArray)(c d:Int):US:=stL 29 [(2,.box () [tS v2_0,tS v2_1,tI v2_2,tI v2_3,tB v2_4,.s .far () 5 (a.map (GTask.t q0))]),(5,.one (.s .own () 1 (v5.map etI))),(13,.one (.s .far () 1 (b.map etS))),(14,T5 c),(15,T5 d)]
def xd (q0:Kd)(a:List Int):US:=stL 29 [(5,.one (.s .own () 1 (a.map etI)))]
abbrev IW:US→Exit→US→Prop:=Round E 118 (am Tryz.f118 0)
def Q0 {q0:Kd}(v2_0 v2_1:ByteArray)(v2_2 v2_3:Int)(v2_4:Bool)(a:List GTask)(v5:List Int)(b:List ByteArray)(c d:Int):IX→Prop| .x0 e=>Loops E 118 (am Tryz.f118 0) (xe q0 v2_0 v2_1 v2_2 v2_3 v2_4 a v5 b c d) (.exit 0) (xd q0 e)
noncomputable def l7 (v2_0 v2_1:ByteArray)(v2_2 v2_3:Int)(a:List GTask):List ByteArray→Nat→Bool→(List Int)→Option IX|[],i,v2_4,v5=>some (.x0 v5)|hd::rest,i,v2_4,v5=>if(GDag.mk v2_0 v2_1 v2_2 v2_3 v2_4 a).f5.length≤1050000 then if(v5.length+([bR (GDag.mk v2_0 v2_1 v2_2 v2_3 v2_4 a) hd]).length)*8≤140737488355328∧v5.length+([bR (GDag.mk v2_0 v2_1 v2_2 v2_3 v2_4 a) hd]).length≤4611686018427387904 then l7 v2_0 v2_1 v2_2 v2_3 a rest (i+1) v2_4 (v5++([bR (GDag.mk v2_0 v2_1 v2_2 v2_3 v2_4 a) hd]))else none else none
theorem QZ {q0:Kd}(v2_0 v2_1:ByteArray)(v2_2 v2_3:Int)(a:List GTask)(b:List ByteArray)(rest:List ByteArray):∀(i:Nat)(v2_4:Bool)(v5:List Int),(b).drop i=rest→b.length≤9223372036854775807→Ans (l7 v2_0 v2_1 v2_2 v2_3 a rest i v2_4 v5) (Q0 (q0:=q0) v2_0 v2_1 v2_2 v2_3 v2_4 a v5 b (b.length:Int) (i:Int)):=by
 induction rest with
 |nil =>intro i v2_4 v5 c d;have hb:=aI c;unfold l7;exact TT (TV (show IW (xe q0 v2_0 v2_1 v2_2 v2_3 v2_4 a v5 b (b.length:Int) (i:Int)) (.exit 0) (xd q0 v5)from RP [.b false] (AC hb<|AN)) (by intro h;cases h))
 |cons hd rest f =>intro i v2_4 v5 c d;have hb:=aC c;have g:=aD c d;have e:=aq c;have j:=aB c;unfold l7;refine TY (fun l => ?_);refine TY (fun m => ?_);exact(f (i+1) v2_4 (v5++([bR (GDag.mk v2_0 v2_1 v2_2 v2_3 v2_4 a) hd])) e d).mono fun y n=>by have r:IW (xe q0 v2_0 v2_1 v2_2 v2_3 v2_4 a v5 b (b.length:Int) (i:Int)) .normal (xe q0 v2_0 v2_1 v2_2 v2_3 v2_4 a (v5++([bR (GDag.mk v2_0 v2_1 v2_2 v2_3 v2_4 a) hd])) b (b.length:Int) (inc (i:Int))):=RP [.b true,.row (etS hd),.ret [T2 (bR (GDag.mk v2_0 v2_1 v2_2 v2_3 v2_4 a) hd)],.rows ((v5++([bR (GDag.mk v2_0 v2_1 v2_2 v2_3 v2_4 a) hd])).map etI)] (AC hb<|AR etS j<|AV (ψ:=fun k=>E.C k 69 [.agg (GDag.t .far q0 (GDag.mk v2_0 v2_1 v2_2 v2_3 v2_4 a)),T7 hd]=some [T2 (bR (GDag.mk v2_0 v2_1 v2_2 v2_3 v2_4 a) hd)]) (gk (GDag.mk v2_0 v2_1 v2_2 v2_3 v2_4 a) hd l)<|AAp etI (fun _=>rfl) m<|AN);rw[g]at r;cases y<;>exact TU r n
noncomputable def Ay (x0:GDag)(c:Int):Option ((List Int)):=
  (ak x0.f5 c).bind fun b=>if b.f4.length≤9223372036854775807 then(l7 x0.f0 x0.f1 x0.f2 x0.f3 x0.f5 b.f4 0 x0.f4 ([])).bind fun y=>match y with
   | .x0 a=>(if a.length<4611686018427387904 then some (eh a)else none)else none
theorem RK {q0:Kd}(x0:GDag)(e:Int):Ans (Ay x0 e) (fun r=>Does E 118 [.agg (GDag.t .far q0 x0),T5 e] [(false,[.s .own () 1 (r.map etI)])]):=by
 unfold Ay;refine TX (fun b f => ?_);refine TY (fun c => ?_);refine TX (fun y d => ?_);replace d:=QZ (q0:=q0) x0.f0 x0.f1 x0.f2 x0.f3 x0.f5 b.f4 b.f4 0 x0.f4 ([]) rfl c y d;cases y with
 |x0 a =>have g:=d;refine TY (fun h => ?_);exact TT (DP Tryz.f118 [.row ((GTask.t q0) b),T8 (b.f4.length:Int),.lp (.exit 0) (xd q0 a),.ret [(false,[.s .own () 1 ((eh a).map etI)])]] (AR (GTask.t q0) f<|ALn b.f4 etS<|AL g<|AC (p:=(a.map etI).length=(a.map etI).length) rfl<|AV (ψ:=fun k=>E.C k 127 [.one (.s .own () 1 (a.map etI))]=some [(false,[.s .own () 1 ((eh a).map etI)])]) (sB a h)<|AN))
inductive BD where|x2 (v5:List Int)
def lv (q0:Kd)(v1:Int)(v2_0 v2_1:ByteArray)(v2_2 v2_3:Int)(v2_4:Bool)(a:List GTask)(v5:List Int)(v6 v7:Int):US:=stL 48 [(1,T5 v1),(2,.box () [tS v2_0,tS v2_1,tI v2_2,tI v2_3,tB v2_4,.s .far () 5 (a.map (GTask.t q0))]),(5,.one (.s .own () 1 (v5.map etI))),(6,T5 v6),(7,T5 v7)]
def sv (q0:Kd)(v1:Int)(v2_0 v2_1:ByteArray)(v2_2 v2_3:Int)(v2_4:Bool)(a:List GTask)(v6:Int)(b:List Int):US:=stL 48 [(1,T5 v1),(2,.box () [tS v2_0,tS v2_1,tI v2_2,tI v2_3,tB v2_4,.s .far () 5 (a.map (GTask.t q0))]),(5,.one (.s .own () 1 (b.map etI))),(6,T5 v6)]
abbrev vD:US→Exit→US→Prop:=Round E 89 (am Tryz.f89 1)
def L4 {q0:Kd}(v1:Int)(v2_0 v2_1:ByteArray)(v2_2 v2_3:Int)(v2_4:Bool)(a:List GTask)(v5:List Int)(v6 v7:Int):BD→Prop| .x2 b=>Loops E 89 (am Tryz.f89 1) (lv q0 v1 v2_0 v2_1 v2_2 v2_3 v2_4 a v5 v6 v7) (.exit 2) (sv q0 v1 v2_0 v2_1 v2_2 v2_3 v2_4 a v6 b)
noncomputable def gz (a:List GTask)(v6:Int):List ByteArray→Nat→Bool→(List Int)→Option BD|[],i,v2_4,v5=>some (.x2 v5)|hd::rest,i,v2_4,v5=>(ak a v6).bind fun b=>cond (hd.toList==b.f0.toList) (if(v5.length+([v6]).length)*8≤140737488355328∧v5.length+([v6]).length≤4611686018427387904 then gz a v6 rest (i+1) v2_4 (v5++([v6]))else none) (gz a v6 rest (i+1) v2_4 v5)
theorem L2 {q0:Kd}(v1:Int)(v2_0 v2_1:ByteArray)(v2_2 v2_3:Int)(a:List GTask)(v6:Int)(b:GTask)(c:ak a v1=some b)(rest:List ByteArray):∀(i:Nat)(v2_4:Bool)(v5:List Int),(b.f4).drop i=rest→b.f4.length≤9223372036854775807→Ans (gz a v6 rest i v2_4 v5) (L4 (q0:=q0) v1 v2_0 v2_1 v2_2 v2_3 v2_4 a v5 v6 (i:Int)):=by
 induction rest with
 |nil =>intro i v2_4 v5 d f;have hb:=aI d;unfold gz;exact TT (TV (show vD (lv q0 v1 v2_0 v2_1 v2_2 v2_3 v2_4 a v5 v6 (i:Int)) (.exit 2) (sv q0 v1 v2_0 v2_1 v2_2 v2_3 v2_4 a v6 v5)from RP [.row ((GTask.t q0) b),T8 (b.f4.length:Int),.b false] (AR (GTask.t q0) c<|ALn b.f4 etS<|AC hb<|AN)) (by intro h;cases h))
 |cons hd rest j =>
  intro i v2_4 v5 d f;have hb:=aC d;have k:=aD d f;have e:=aq d;have l:=aB d;unfold gz;refine TX (fun m n => ?_);apply TW<;>intro o
  ·refine TY (fun p => ?_);exact(j (i+1) v2_4 (v5++([v6])) e f).mono fun y g=>by have r:vD (lv q0 v1 v2_0 v2_1 v2_2 v2_3 v2_4 a v5 v6 (i:Int)) .normal (lv q0 v1 v2_0 v2_1 v2_2 v2_3 v2_4 a (v5++([v6])) v6 (inc (i:Int))):=RP [.row ((GTask.t q0) b),T8 (b.f4.length:Int),.b true,.row ((GTask.t q0) b),.row (etS hd),.row ((GTask.t q0) m),.b true,.rows ((v5++([v6])).map etI)] (AR (GTask.t q0) c<|ALn b.f4 etS<|AC hb<|AR (GTask.t q0) c<|AR etS l<|AR (GTask.t q0) n<|AC o<|AAp etI (fun _=>rfl) p<|AN);rw[k]at r;cases y<;>exact TU r g
  ·exact(j (i+1) v2_4 v5 e f).mono fun y g=>by have r:vD (lv q0 v1 v2_0 v2_1 v2_2 v2_3 v2_4 a v5 v6 (i:Int)) .normal (lv q0 v1 v2_0 v2_1 v2_2 v2_3 v2_4 a v5 v6 (inc (i:Int))):=RP [.row ((GTask.t q0) b),T8 (b.f4.length:Int),.b true,.row ((GTask.t q0) b),.row (etS hd),.row ((GTask.t q0) m),.b false] (AR (GTask.t q0) c<|ALn b.f4 etS<|AC hb<|AR (GTask.t q0) c<|AR etS l<|AR (GTask.t q0) n<|AC o<|AN);rw[k]at r;cases y<;>exact TU r g
inductive BC where|x0 (v5:List Int)
def rn (q0:Kd)(v1:Int)(v2_0 v2_1:ByteArray)(v2_2 v2_3:Int)(v2_4:Bool)(a:List GTask)(v5:List Int)(v6:Int):US:=stL 48 [(1,T5 v1),(2,.box () [tS v2_0,tS v2_1,tI v2_2,tI v2_3,tB v2_4,.s .far () 5 (a.map (GTask.t q0))]),(5,.one (.s .own () 1 (v5.map etI))),(6,T5 v6)]
def su (q0:Kd)(a:List Int):US:=stL 48 [(5,.one (.s .own () 1 (a.map etI)))]
abbrev BB:US→Exit→US→Prop:=Round E 89 (am Tryz.f89 0)
def L3 {q0:Kd}(v1:Int)(v2_0 v2_1:ByteArray)(v2_2 v2_3:Int)(v2_4:Bool)(a:List GTask)(v5:List Int)(v6:Int):BC→Prop| .x0 b=>Loops E 89 (am Tryz.f89 0) (rn q0 v1 v2_0 v2_1 v2_2 v2_3 v2_4 a v5 v6) (.exit 0) (su q0 b)
noncomputable def iJ (v1:Int)(a:List GTask):List GTask→Nat→Bool→(List Int)→Option BC
 |[],i,v2_4,v5=>some (.x0 v5)
 |hd::rest,i,v2_4,v5=>(ak a v1).bind fun c=>if c.f4.length≤9223372036854775807 then(gz a (i:Int) c.f4 0 v2_4 v5).bind fun y=>match y with
  | .x2 b=>(iJ v1 a rest (i+1) v2_4 b)else none
theorem L1 {q0:Kd}(v1:Int)(v2_0 v2_1:ByteArray)(v2_2 v2_3:Int)(a:List GTask)(rest:List GTask):∀(i:Nat)(v2_4:Bool)(v5:List Int),(a).drop i=rest→a.length≤9223372036854775807→Ans (iJ v1 a rest i v2_4 v5) (L3 (q0:=q0) v1 v2_0 v2_1 v2_2 v2_3 v2_4 a v5 (i:Int)):=by
 induction rest with
 |nil =>intro i v2_4 v5 c e;have hb:=aI c;unfold iJ;exact TT (TV (show BB (rn q0 v1 v2_0 v2_1 v2_2 v2_3 v2_4 a v5 (i:Int)) (.exit 0) (su q0 v5)from RP [T8 (a.length:Int),.b false] (ALn a (GTask.t q0)<|AC hb<|AN)) (by intro h;cases h))
 |cons hd rest k =>
  intro i v2_4 v5 c e;have hb:=aC c;have l:=aD c e;have f:=aq c;have o:=aB c;unfold iJ;refine TX (fun j m => ?_);refine TY (fun g => ?_);refine TX (fun y d => ?_);replace d:=L2 (q0:=q0) v1 v2_0 v2_1 v2_2 v2_3 a (i:Int) j m j.f4 0 v2_4 v5 rfl g y d;cases y with
  |x2 b =>have n:=d;exact(k (i+1) v2_4 b f e).mono fun y d=>by have r:BB (rn q0 v1 v2_0 v2_1 v2_2 v2_3 v2_4 a v5 (i:Int)) .normal (rn q0 v1 v2_0 v2_1 v2_2 v2_3 v2_4 a b (inc (i:Int))):=RP [T8 (a.length:Int),.b true,.lp (.exit 2) (sv q0 v1 v2_0 v2_1 v2_2 v2_3 v2_4 a (i:Int) b)] (ALn a (GTask.t q0)<|AC hb<|AL n<|AN);rw[l]at r;cases y<;>exact TU r d
noncomputable def sX (x0:GDag)(b:Int):Option ((List Int)):=
  if x0.f5.length≤9223372036854775807 then(iJ b x0.f5 x0.f5 0 x0.f4 ([])).bind fun y=>match y with
   | .x0 a=>(some (a))else none
theorem On {q0:Kd}(x0:GDag)(b:Int):Ans (sX x0 b) (fun r=>Does E 89 [.agg (GDag.t .far q0 x0),T5 b] [(false,[.s .own () 1 (r.map etI)])]):=by
 unfold sX;refine TY (fun c => ?_);refine TX (fun y d => ?_);replace d:=L1 (q0:=q0) b x0.f0 x0.f1 x0.f2 x0.f3 x0.f5 x0.f5 0 x0.f4 ([]) rfl c y d;cases y with
 |x0 a =>have e:=d;exact TT (DP Tryz.f89 [.lp (.exit 0) (su q0 a)] (AL e<|AN))
noncomputable def Rh (ts:List GTask)(t:GTask):List Int:=eh (t.f4.map (ar ts))
noncomputable def ups (d:GDag)(i:Int):List Int:=match ak d.f5 i with|some t=>Rh d.f5 t|none=>[]
theorem tz {d:GDag}(h:aO d=true):d.f5.length≤4∧1≤d.f5.length∧eC d.f5 d.f5 0=true∧fK d.f5∧(nB d.f5).length=d.f5.length:=by
 unfold aO at h;simp only[Ux,V6]at h;obtain⟨_,_,_,_,b,c,e⟩:=h;have a:1≤d.f5.length∧d.f5.length≤4:=by unfold ae at b;simp at b;omega
 exact⟨a.2,a.1,c,wZ a.2 c,by omega⟩
theorem Dt {ts:List GTask}(h:eC ts ts 0=true){k:Nat}{t:GTask}(a:ts[k]?=some t):asc t.f0 t.f4 none=true∧∀n∈t.f4,0≤ar ts n:=by have:=sT ts ts 0 rfl h k t (Wq _) a;unfold jh at this;simp only[Ux]at this;exact⟨this.2.2.2.2.1,fun n b=>Wa (Ut.1 this.2.2.2.2.2 n b)⟩
theorem Hy (ts:List GTask){a b:ByteArray}(h:tx a=tx b):ar ts a=ar ts b:=by rw[rI h]
theorem xE {ts:List GTask}{n:ByteArray}(h:0≤ar ts n):∃(k:Nat) (t:GTask),ar ts n=(k:Int)∧ts[k]?=some t∧tx t.f0=tx n:=by
 unfold ar at h ⊢;rcases oX n ts 0 with⟨b,_⟩|⟨k,t,c,d,a⟩
 ·rw[b]at h;omega
 ·unfold kz at a;rw[gD,U7]at a;exact⟨k,t,by rw[c];omega,d,a⟩
theorem yt {l:List Int}(e:l.Nodup):(eh l).Pairwise (· < ·)∧∀x,x∈eh l↔x∈l:=by
 have hs:(eh l).Pairwise (· ≤ ·):=by have:=Xe (le:=fun x y:Int=>decide (x≤y)) (fun a b c=>by simp;omega) (fun a b=>by simp;omega) l;exact this.imp fun h=>by simpa using h
 have d:(eh l).Perm l:=List.mergeSort_perm l _;have hd:(eh l).Nodup:=d.nodup_iff.2 e;refine⟨?_,fun x=>d.mem_iff⟩;have:=hs.and hd;exact this.imp fun⟨a,b⟩=>by omega
theorem Gc {ts:List GTask}{t:GTask}(h:asc t.f0 t.f4 none=true)(f:∀n∈t.f4,0≤ar ts n):(t.f4.map (ar ts)).Nodup:=by
 have c:=(ut t.f0 t.f4 none h).1;unfold List.Nodup at c ⊢;rw[W7]at c ⊢;refine c.imp_of_mem fun {a b} i l d e => ?_
 obtain⟨k,u,p,m,o⟩:=xE (f a i);obtain⟨j,v,g1,g,g3⟩:=xE (f b l);have:k=j:=by omega
 subst this;rw[m]at g;cases g;exact d (o.symm.trans g3)
def jB (a:List ByteArray):List GTask→Nat→List Int|[],_=>[]|t::r,k=>(a.filter fun n=>n.toList==t.f0.toList).map (fun _=>(k:Int))++jB a r (k+1)
theorem CR {x:ByteArray}:∀{l:List ByteArray},(l.map tx).Nodup→(l.filter fun n=>n.toList==x.toList).length≤1
 |[],_=>by simp
 |y::l,h=>by
  rw[Uv,WR]at h;have a:=CR (x:=x) h.2;rw[VD];split
  ·rename_i q;rw[gD,U7]at q;have:l.filter (fun n=>n.toList==x.toList)=[]:=by rw[List.filter_eq_nil_iff];intro z hz e;rw[gD,U7]at e;exact h.1 (Uw.2 ⟨z,hz,e.trans q.symm⟩)
   rw[this];simp
  ·exact a
theorem DX {f:List ByteArray}(d:(f.map tx).Nodup):∀(l:List GTask)(k:Nat),(jB f l k).Pairwise (· < ·)∧(∀x∈jB f l k,(k:Int)≤x)∧∀x,x∈jB f l k↔∃(j:Nat) (t:GTask),l[j]?=some t∧x=((k+j:Nat):Int)∧∃n∈f,tx n=tx t.f0
 |[],k=>⟨by simp[jB],fun x hx=>by simp[jB]at hx,fun x=>by simp[jB]⟩
 |t::l,k=>by
  obtain⟨m,i,o⟩:=DX d l (k+1);unfold jB;have hf:=CR (x:=t.f0) d;have c:∀x,x∈(f.filter fun n=>n.toList==t.f0.toList).map (fun _=>(k:Int))↔x=(k:Int)∧∃n∈f,tx n=tx t.f0:=fun x=>by
   rw[Uw];constructor
   ·rintro⟨n,g,rfl⟩;rw[VV,gD,U7]at g;exact⟨rfl,n,g⟩
   ·rintro⟨rfl,n,g⟩;exact⟨n,by rw[VV,gD,U7];exact g,rfl⟩
  refine⟨?_,fun x hx => ?_,fun x => ?_⟩
  ·rw[WT];refine⟨?_,m,fun a p b hb => ?_⟩
   ·generalize (f.filter fun n=>n.toList==t.f0.toList)=L at hf
    match L,hf with
    |[],_=>simp
    |[y],_=>simp
    |y::z::w,hf=>simp at hf
   ·have:=((c a).1 p).1;have:=i b hb;omega
  ·rcases UG.1 hx with hx|hx
   ·have:=((c x).1 hx).1;omega
   ·have:=i x hx;omega
  ·rw[UG,c,o];constructor
   ·rintro(⟨e,d⟩|⟨j,u,h,q,d⟩)
    ·exact⟨0,t,rfl,by omega,d⟩
    ·exact⟨j+1,u,h,by omega,d⟩
   ·rintro⟨j,u,h,q,d⟩;cases j with
    |zero=>cases h;exact .inl ⟨by omega,d⟩
    |succ j=>exact .inr ⟨j,u,h,by omega,d⟩
theorem Ri {ts:List GTask}(g:fK ts){t:GTask}(d:asc t.f0 t.f4 none=true)(e:∀n∈t.f4,0≤ar ts n):jB t.f4 ts 0=Rh ts t:=by
 obtain⟨h, -,a3⟩:=DX (ut t.f0 t.f4 none d).1 ts 0;obtain⟨i,l⟩:=yt (Gc d e);refine Ak h i fun x => ?_
 rw[a3];show _↔x∈eh _;rw[l,Uw];constructor
 ·rintro⟨j,u,b,f,n,a,c⟩;refine⟨n,a,?_⟩;rw[Hy ts c,g.2 j u b];omega
 ·rintro⟨n,a,rfl⟩;obtain⟨k,u,b,f,c⟩:=xE (e n a);exact⟨k,u,f,by rw[b];omega,n,a,c.symm⟩
theorem Ql (a b:ByteArray)(c e:Int)(ts:List GTask)(d:ts.length≤1050000):∀(l:List ByteArray)(i:Nat)(z:Bool)(v:List Int),v.length+l.length≤2000000→l7 a b c e ts l i z v=some (.x0 (v++l.map (ar ts)))
 |[],i,z,v,_=>by unfold l7;simp
 |n::l,i,z,v,f=>by simp only[UK]at f;unfold l7;rw[Ub (show(GDag.mk a b c e z ts).f5.length≤1050000 from d),Ub (by simp;omega),Ql a b c e ts d l (i+1) z _ (by simp;omega)];simp[bR]
theorem SM (d:GDag)(i:Int)(h:ac.sm d)(hi:0≤i∧i<(d.f5.length:Int)):Ay d i=some (ups d i):=by have hs:ac.sm d.f5:=h.2.2;obtain⟨t,a,b⟩:=gU hi;have c:t.f4.length≤1050000:=(hs.2 t b).2.2.1;unfold Ay ups;rw[a,Ua,Ub (by omega),Ql _ _ _ _ _ hs.1 _ _ _ _ (by simp;omega),Ua];simp only[UI];rw[Ub (by rw[UH];omega)];rfl
theorem Kr (ts:List GTask)(k:Nat)(u:GTask)(a:ts[k]?=some u):∀(l:List ByteArray)(i:Nat)(z:Bool)(v:List Int),v.length+l.length≤8000000→gz ts (k:Int) l i z v=some (.x2 (v++(l.filter fun n=>n.toList==u.f0.toList).map fun _=>(k:Int)))
 |[],i,z,v,_=>by unfold gz;simp
 |n::l,i,z,v,b=>by
  simp only[UK]at b;have c:ak ts (k:Int)=some u:=by rw[ct];exact a
  unfold gz;rw[c,Ua,VD];cases n.toList==u.f0.toList with
  |true=>rw[Uo,Ub (by simp;omega),Kr ts k u a l (i+1) z _ (by simp;omega)];simp
  |false=>rw[Uu,Kr ts k u a l (i+1) z v (by omega)];simp
theorem Qk (ts:List GTask)(i:Int)(t:GTask)(b:ak ts i=some t)(c:t.f4.length≤1050000)(a:ts.length≤4):∀(l:List GTask)(k:Nat)(z:Bool)(v:List Int),ts.drop k=l→v.length+l.length*1050000≤6000000→iJ i ts l k z v=some (.x0 (v++jB t.f4 l k))
 |[],k,z,v,_,_=>by unfold iJ jB;rw[UF]
 |u::l,k,z,v,hd,hv=>by
  have d:ts[k]?=some u:=by rw[←Wz,hd];rfl
  simp only[UK]at hv;have hf:=List.length_filter_le (fun n:ByteArray=>n.toList==u.f0.toList) t.f4;unfold iJ jB;rw[b,Ua,Ub (by omega),Kr ts k u d _ _ _ _ (by omega),Ua];simp only;rw[Qk ts i t b c a l (k+1) z _ (aq hd) (by simp;omega),VU]
theorem SN (d:GDag)(i:Int)(h:ac.sm d)(hd:aO d=true)(hi:0≤i∧i<(d.f5.length:Int)):sX d i=some (ups d i):=by obtain⟨c, -,e,a, -⟩:=tz hd;have hs:ac.sm d.f5:=h.2.2;obtain⟨t,b,f⟩:=gU hi;have hf:t.f4.length≤1050000:=(hs.2 t f).2.2.1;obtain⟨l,g⟩:=oI b;obtain⟨j,k⟩:=Dt e g;unfold sX ups;rw[Ub (by omega),b,Qk d.f5 i t b hf c d.f5 0 d.f4 [] rfl (by simp;omega),Ua];simp only[UI];rw[Ri a j k]
theorem SB {d:GDag}{i:Int}(hd:aO d=true)(hi:0≤i∧i<(d.f5.length:Int)):(∀x∈ups d i,0≤x∧x<(d.f5.length:Int))∧(ups d i).length≤4:=by
 obtain⟨p, -,g,j, -⟩:=tz hd;obtain⟨t,b,c⟩:=gU hi;obtain⟨q,k⟩:=oI b;obtain⟨l,f⟩:=Dt g k;have e:ups d i=Rh d.f5 t:=by unfold ups;rw[b]
 obtain⟨m,o⟩:=yt (Gc l f);have a:∀x∈ups d i,0≤x∧x<(d.f5.length:Int):=fun x a=>by rw[e]at a;obtain⟨n,c,rfl⟩:=Uw.1 ((o x).1 a);exact⟨f n c,(Ow d.f5 n).2⟩
 refine⟨a,?_⟩;have:=xv 0 ((d.f5.length:Int)-1) (ups d i) 0 (by rw[e];exact m) (fun x h=>by have:=a x h;omega) (by omega);omega
theorem Mi {q0:Kd}(x0:GDag)(a:Int)(h:ac.sm x0)(hd:aO x0=true)(hi:0≤a∧a<(x0.f5.length:Int)):Does E 118 [.agg (GDag.t .far q0 x0),T5 a] [(false,[.s .own () 1 ((ups x0 a).map etI)])]:=by exact RK x0 a _ (SM x0 a h hi)
theorem MZ {q0:Kd}(x0:GDag)(a:Int)(h:ac.sm x0)(hd:aO x0=true)(hi:0≤a∧a<(x0.f5.length:Int)):Does E 89 [.agg (GDag.t .far q0 x0),T5 a] [(false,[.s .own () 1 ((ups x0 a).map etI)])]:=by exact On x0 a _ (SN x0 a h hd hi)
end
end Go.Proofs.YtoanlngmbcnglaaGreatDoor.Am
