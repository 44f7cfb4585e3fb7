/- What the functions that mark plans and runs do. -/
import Derived.Test.YtjlkcjlcmaoccaaGreatDoorShells
namespace Go.Proofs.YtjlkcjlcmaoccaaGreatDoor.Am
open Go
set_option linter.unusedVariables false
set_option linter.unusedSimpArgs false
section
open Go.Proofs Classical
set_option maxRecDepth 100000
inductive vg where|x0 (v3:ByteArray)
def mE (v0:Int)(v3:ByteArray):US:=stL 20 [(0,O0 v0),(3,O2 v3)]
def nV (a:ByteArray):US:=stL 20 [(3,O2 a)]
abbrev vf:US→Exit→US→Prop:=Round E 56 (av Tryz.f56 0)
def C6 (v0:Int)(v3:ByteArray):vg→Prop| .x0 a=>Loops E 56 (av Tryz.f56 0) (mE v0 v3) (.exit 0) (nV a)
noncomputable def gC  : Nat→Int→ByteArray→Option vg| 0,_,_=>none|n+1,v0,v3=>cond (decide (v0>(0:Int))) (if(strOfNums ([IntKind.wrap .u8 (IntKind.wrap .i64 ((48:Int)+(Int.tmod v0 10)))])).size+v3.size≤maxStr then gC n (IntKind.wrap .i64 (Int.tdiv v0 10)) ((strOfNums ([IntKind.wrap .u8 (IntKind.wrap .i64 ((48:Int)+(Int.tmod v0 10)))]))++v3)else none) (some (.x0 v3))
theorem C5  (n:Nat):∀(v0:Int)(v3:ByteArray),Ans (gC n v0 v3) (C6 v0 v3):=by
 induction n with
 |zero=>intros;exact Ans.none
 |succ n b =>
  intro v0 v3;unfold gC;apply OR<;>intro a
  ·refine OT (fun c => ?_);have r:vf (mE v0 v3) .normal (mE (IntKind.wrap .i64 (Int.tdiv v0 10)) ((strOfNums ([IntKind.wrap .u8 (IntKind.wrap .i64 ((48:Int)+(Int.tmod v0 10)))]))++v3)):=RP [.b true,.no,.no,.val (.string (strOfNums ([IntKind.wrap .u8 (IntKind.wrap .i64 ((48:Int)+(Int.tmod v0 10)))]))),.val (.string ((strOfNums ([IntKind.wrap .u8 (IntKind.wrap .i64 ((48:Int)+(Int.tmod v0 10)))]))++v3))] (AC a<|AC (p:=(dF (((([IntKind.wrap .u8 (IntKind.wrap .i64 ((48:Int)+(Int.tmod v0 10)))]).map etY).drop 0).take (([IntKind.wrap .u8 (IntKind.wrap .i64 ((48:Int)+(Int.tmod v0 10)))]).map etY).length)).map strOfNums=some (strOfNums ([IntKind.wrap .u8 (IntKind.wrap .i64 ((48:Int)+(Int.tmod v0 10)))]))) (by simp only[PV,PQ];exact Gf)<|AC (gH (tab:=E.tab) (t:=9) c)<|AN);exact(b (IntKind.wrap .i64 (Int.tdiv v0 10)) ((strOfNums ([IntKind.wrap .u8 (IntKind.wrap .i64 ((48:Int)+(Int.tmod v0 10)))]))++v3)).mono fun y d=>by cases y<;>exact OP r d
  ·exact OO (OQ (show vf (mE v0 v3) (.exit 0) (nV v3)from RP [.b false] (AC a<|AN)) (by intro h;cases h))
noncomputable def et (x0:Int):Option (ByteArray):=
  cond (decide (x0≤(0:Int)))
   (some ((⟨#[109,48]⟩:ByteArray)))
   ((gC 9223372036854775808 x0 ByteArray.empty).bind fun y=>match y with
    | .x0 a=>(if(⟨#[109]⟩:ByteArray).size+a.size≤maxStr then some ((⟨#[109]⟩:ByteArray)++a)else none))
theorem E8 (x0:Int):Ans (et x0) (fun r=>Does E 56 [O0 x0] [OZ r]):=by
 unfold et;apply OR<;>intro c
 ·exact OO (DP Tryz.f56 [.b true] (AC c<|AN))
 ·refine OS (fun y b => ?_);replace b:=C5 9223372036854775808 x0 ByteArray.empty y b;cases y with
  |x0 a =>have d:=b;refine OT (fun e => ?_);exact OO (DP Tryz.f56 [.b false,.lp (.exit 0) (nV a),.val (.string ((⟨#[109]⟩:ByteArray)++a))] (AC c<|AL d<|AC (gH (tab:=E.tab) (t:=9) e)<|AN))
noncomputable def ag (k:Int):ByteArray:=(et k).getD ByteArray.empty
theorem Nt:∀(d:Nat)(n:Nat)(v:Int)(s:ByteArray),v<10 ^ d→v≤9223372036854775807→d<n→s.size+d≤100→∃r,gC n v s=some (.x0 r)∧r.size≤s.size+d
 |d,0,v,s,h,_,a,_=>by omega
 | 0,n+1,v,s,h,_,a,_=>by unfold gC;rw[Pg (by simp at h;omega)];exact⟨s,rfl,by omega⟩
 |d+1,n+1,v,s,h,hv,a,hs=>by
  unfold gC;by_cases q:v>0
  ·rw[Ph q,Pk];have e:Int.tdiv v 10=v/10:=Int.tdiv_eq_ediv_of_nonneg (by omega);rw[Int.pow_succ]at h;have z:(strOfNums [IntKind.wrap .u8 (IntKind.wrap .i64 ((48:Int)+(Int.tmod v 10)))]++s).size=s.size+1:=by rw[RD];show 1+s.size=_;omega
   have z2:(strOfNums [IntKind.wrap .u8 (IntKind.wrap .i64 ((48:Int)+(Int.tmod v 10)))]).size+s.size≤maxStr:=by show 1+s.size≤4611686018427387904;omega
   rw[O6 z2,e,dn _ (by omega) (by omega)];obtain⟨r,b,c⟩:=Nt d n (v/10) (strOfNums [IntKind.wrap .u8 (IntKind.wrap .i64 ((48:Int)+(Int.tmod v 10)))]++s) (by omega) (by omega) (by omega) (by omega);exact⟨r,b,by omega⟩
  ·rw[Pg q];exact⟨s,rfl,by omega⟩
theorem pP (k:Int)(b:k≤4611686018427387904):et k=some (ag k)∧ae.sm (ag k):=by
 have e:∃r,et k=some r∧r.size≤100:=by
  unfold et;by_cases q:k≤0
  ·rw[Ph q];exact⟨_,rfl,by decide⟩
  ·rw[Pg q,Pt];obtain⟨r,g1,a⟩:=Nt 19 9223372036854775808 k ByteArray.empty (by omega) (by omega) (by omega) (by decide);have z:ByteArray.empty.size=0:=rfl;have z2:(⟨#[109]⟩:ByteArray).size=1:=rfl;rw[g1,O5];simp only;rw[O6 (by rw[z2];unfold maxStr;omega)];exact⟨_,rfl,by rw[RD,z2];omega⟩
 obtain⟨r,g1,a⟩:=e;have p:ag k=r:=by unfold ag;rw[g1];rfl
 rw[p];exact⟨g1,show r.size≤1050000 by omega⟩
theorem qC (x0:Int)(h:et x0=some (ag x0)):Does E 56 [O0 x0] [OZ (ag x0)]:=by exact E8 x0 _ h
inductive qZ where|x0 (v0:List ByteArray) (v1:Int)
def j7 (v0:List ByteArray)(v1 v5:Int):US:=stL 20 [(0,.one (.s .own () 1 (v0.map etS))),(1,O0 v1),(5,O0 v5)]
def lh (a:List ByteArray)(b:Int):US:=stL 20 [(0,.one (.s .own () 1 (a.map etS))),(1,O0 b)]
abbrev qY:US→Exit→US→Prop:=Round E 57 (av Tryz.f57 0)
def yM (v0:List ByteArray)(v1 v5:Int):qZ→Prop| .x0 a b=>Loops E 57 (av Tryz.f57 0) (j7 v0 v1 v5) (.exit 0) (lh a b)
noncomputable def dE  : List ByteArray→List ByteArray→Nat→Int→Option qZ|[],done,i,v1=>some (.x0 done v1)|hd::rest,done,i,v1=>if et v1=some (ag v1)then dE rest (done++[(ag v1)]) (i+1) (inc v1)else none
theorem yL  (rest:List ByteArray):∀(done:List ByteArray)(i:Nat)(v1:Int),i=done.length→(done++rest).length≤9223372036854775807→Ans (dE rest done i v1) (yM (done++rest) v1 (i:Int)):=by
 induction rest with
 |nil =>intro done i v1 hi a;rw[PF];have hb:=Fj hi;unfold dE;exact OO (OQ (show qY (j7 done v1 (i:Int)) (.exit 0) (lh done v1)from RP [O3 (done.length:Int),.b false] (ALn done etS<|AC hb<|AN)) (by intro h;cases h))
 |cons hd rest b =>intro done i v1 hi a;have hb:=Bj (hd:=hd) (rest:=rest) hi;have c:=Bk (hd:=hd) (rest:=rest) hi a;have d:=Fk (hd:=hd) (rest:=rest) hi;unfold dE;refine OT (fun e => ?_);exact(b (done++[(ag v1)]) (i+1) (inc v1) (by simp[hi]) (by simpa using a)).mono fun y f=>by have r:qY (j7 (done++hd::rest) v1 (i:Int)) .normal (j7 ((done++hd::rest).set (i:Int).toNat (ag v1)) (inc v1) (inc (i:Int))):=RP [O3 ((done++hd::rest).length:Int),.b true,.ret [OZ (ag v1)],.row (etS hd),.rows (((done++hd::rest).set (i:Int).toNat (ag v1)).map etS)] (ALn (done++hd::rest) etS<|AC hb<|AD (qC v1 e)<|AG etS d<|AC (p:=((done++hd::rest).map etS).set (0+(i:Int).toNat) (au (etS hd) 0 [tS (ag v1)])=((done++hd::rest).set (i:Int).toNat (ag v1)).map etS) (db (by rfl))<|AN);rw[c,yW hi]at r;cases y<;>exact OP r f
noncomputable def ef (x0:List ByteArray)(c:Int):Option ((List ByteArray)×Int):=
  if x0.length≤9223372036854775807 then(dE x0 [] 0 c).bind fun y=>match y with
   | .x0 a b=>(some (a,b))else none
theorem zZ (x0:List ByteArray)(c:Int):Ans (ef x0 c) (fun r=>Does E 57 [.one (.s .own () 1 (x0.map etS)),O0 c] [(false,[.s .own () 1 (r.1.map etS)]),OX r.2]):=by
 unfold ef;refine OT (fun d => ?_);refine OS (fun y e => ?_);replace e:=yL x0 [] 0 c rfl d y e;cases y with
 |x0 a b =>have f:=e;exact OO (DP Tryz.f57 [.lp (.exit 0) (lh a b)] (AL f<|AN))
noncomputable def aJ (x:List ByteArray)(k:Int):(List ByteArray)×Int:=(ef x k).getD ([],0)
theorem za (x0:List ByteArray)(a:Int)(h:ef x0 a=some (aJ x0 a)):Does E 57 [.one (.s .own () 1 (x0.map etS)),O0 a] [(false,[.s .own () 1 (((aJ x0 a).1).map etS)]),OX ((aJ x0 a).2)]:=by exact zZ x0 a _ h
theorem rb:∀(rest done:List ByteArray)(i:Nat)(k:Int),(∀y∈rest,ae.sm y)→0≤k→k+1*(rest.length:Int)≤4611686018427387904 →
  ∃new m,dE rest done i k=some (.x0 (done++new) m)∧k≤m∧m≤k+1*(rest.length:Int)∧new.length=rest.length∧(∀y∈new,ae.sm y)
 |[],done,i,k,_,b,_=>⟨[],k,by unfold dE;rw[PF],by omega,by simp,rfl,fun y hy=>(by cases hy)⟩
 |x::rest,done,i,k,h,b,c=>by
  have f:=h x (by simp);rw[PH]at c ⊢;have a:=pP k (by omega);have d:inc k=k+1:=fH _ (by omega) (by omega);obtain⟨new,m,g1,g,g3,g4,e⟩:=rb rest (done++[(ag k)]) (i+1) (k+1) (fun y hy=>h y (by simp[hy])) (by omega) (by omega);refine⟨(ag k)::new,m,?_,by omega,by omega,by simp[g4],?_⟩
  ·unfold dE;simp only[a.1,d,PK,g1,QX,QF]
  ·intro y hy;rcases PD.1 hy with rfl|hy
   ·exact a.2
   ·exact e y hy
theorem yQ (l:List ByteArray)(k:Int)(h:ae.sm l)(a:0≤k)(d:k+1050000≤4611686018427387904):ef l k=some (aJ l k)∧True∧True∧k≤(aJ l k).2∧(aJ l k).2≤k+1050000∧ae.sm (aJ l k).1:=by
 have f:=h.1;obtain⟨new,m,g1,b,g3,g4,c⟩:=rb l [] 0 k h.2 a (by omega);have e:ef l k=some (new,m):=by unfold ef;rw[O6 (iY h),g1];rfl
 have p:aJ l k=(new,m):=by unfold aJ;rw[e];rfl
 rw[p];exact⟨e,trivial,trivial,b,by omega,⟨by show new.length≤1050000;omega,c⟩⟩
inductive tw where|x0 (v0:List GTask) (v1:Int)
def lL (v0:List GTask)(v1 v5:Int):US:=stL 52 [(0,.one (.s .own () 5 (v0.map (GTask.t .own)))),(1,O0 v1),(5,O0 v5)]
def mZ (a:List GTask)(b:Int):US:=stL 52 [(0,.one (.s .own () 5 (a.map (GTask.t .own)))),(1,O0 b)]
abbrev tv:US→Exit→US→Prop:=Round E 36 (av Tryz.f36 0)
def Bd (v0:List GTask)(v1 v5:Int):tw→Prop| .x0 a b=>Loops E 36 (av Tryz.f36 0) (lL v0 v1 v5) (.exit 0) (mZ a b)
noncomputable def eV  : List GTask→List GTask→Nat→Int→Option tw|[],done,i,v1=>some (.x0 done v1)|hd::rest,done,i,v1=>if et v1=some (ag v1)then if et (inc v1)=some (ag (inc v1))then if ef hd.f4 (inc (inc (inc (inc v1))))=some (aJ hd.f4 (inc (inc (inc (inc v1)))))then eV rest (done++[(GTask.mk (ag v1) (ag (inc v1)) (inc (inc v1)) ((Int.tmod (inc (inc (inc v1))) (3:Int))==(0:Int)) ((aJ hd.f4 (inc (inc (inc (inc v1))))).1))]) (i+1) ((aJ hd.f4 (inc (inc (inc (inc v1))))).2)else none else none else none
theorem Bc  (rest:List GTask):∀(done:List GTask)(i:Nat)(v1:Int),i=done.length→(done++rest).length≤9223372036854775807→Ans (eV rest done i v1) (Bd (done++rest) v1 (i:Int)):=by
 induction rest with
 |nil =>intro done i v1 hi b;rw[PF];have hb:=Fj hi;unfold eV;exact OO (OQ (show tv (lL done v1 (i:Int)) (.exit 0) (mZ done v1)from RP [O3 (done.length:Int),.b false] (ALn done (GTask.t .own)<|AC hb<|AN)) (by intro h;cases h))
 |cons hd rest c =>intro done i v1 hi b;have hb:=Bj (hd:=hd) (rest:=rest) hi;have d:=Bk (hd:=hd) (rest:=rest) hi b;have a:=Fk (hd:=hd) (rest:=rest) hi;unfold eV;refine OT (fun e => ?_);refine OT (fun f => ?_);refine OT (fun g => ?_);exact(c (done++[(GTask.mk (ag v1) (ag (inc v1)) (inc (inc v1)) ((Int.tmod (inc (inc (inc v1))) (3:Int))==(0:Int)) ((aJ hd.f4 (inc (inc (inc (inc v1))))).1))]) (i+1) ((aJ hd.f4 (inc (inc (inc (inc v1))))).2) (by simp[hi]) (by simpa using b)).mono fun y j=>by have r:tv (lL (done++hd::rest) v1 (i:Int)) .normal (lL ((done++hd::rest).set (i:Int).toNat (GTask.mk (ag v1) (ag (inc v1)) (inc (inc v1)) ((Int.tmod (inc (inc (inc v1))) (3:Int))==(0:Int)) ((aJ hd.f4 (inc (inc (inc (inc v1))))).1))) ((aJ hd.f4 (inc (inc (inc (inc v1))))).2) (inc (i:Int))):=RP [O3 ((done++hd::rest).length:Int),.b true,.ret [OZ (ag v1)],.row ((GTask.t .own) hd),.rows (((done++hd::rest).set (i:Int).toNat (GTask.mk (ag v1) hd.f1 hd.f2 hd.f3 hd.f4)).map (GTask.t .own)),.ret [OZ (ag (inc v1))],.row ((GTask.t .own) (GTask.mk (ag v1) hd.f1 hd.f2 hd.f3 hd.f4)),.rows (((done++hd::rest).set (i:Int).toNat (GTask.mk (ag v1) (ag (inc v1)) hd.f2 hd.f3 hd.f4)).map (GTask.t .own)),.row ((GTask.t .own) (GTask.mk (ag v1) (ag (inc v1)) hd.f2 hd.f3 hd.f4)),.rows (((done++hd::rest).set (i:Int).toNat (GTask.mk (ag v1) (ag (inc v1)) (inc (inc v1)) hd.f3 hd.f4)).map (GTask.t .own)),.row ((GTask.t .own) (GTask.mk (ag v1) (ag (inc v1)) (inc (inc v1)) hd.f3 hd.f4)),.rows (((done++hd::rest).set (i:Int).toNat (GTask.mk (ag v1) (ag (inc v1)) (inc (inc v1)) ((Int.tmod (inc (inc (inc v1))) (3:Int))==(0:Int)) hd.f4)).map (GTask.t .own)),.row ((GTask.t .own) (GTask.mk (ag v1) (ag (inc v1)) (inc (inc v1)) ((Int.tmod (inc (inc (inc v1))) (3:Int))==(0:Int)) hd.f4)),.row ((GTask.t .own) (GTask.mk (ag v1) (ag (inc v1)) (inc (inc v1)) ((Int.tmod (inc (inc (inc v1))) (3:Int))==(0:Int)) hd.f4)),.ret [(false,[.s .own () 1 (((aJ hd.f4 (inc (inc (inc (inc v1))))).1).map etS)]),OX ((aJ hd.f4 (inc (inc (inc (inc v1))))).2)],.row ((GTask.t .own) (GTask.mk (ag v1) (ag (inc v1)) (inc (inc v1)) ((Int.tmod (inc (inc (inc v1))) (3:Int))==(0:Int)) hd.f4)),.rows (((done++hd::rest).set (i:Int).toNat (GTask.mk (ag v1) (ag (inc v1)) (inc (inc v1)) ((Int.tmod (inc (inc (inc v1))) (3:Int))==(0:Int)) ((aJ hd.f4 (inc (inc (inc (inc v1))))).1))).map (GTask.t .own))] (ALn (done++hd::rest) (GTask.t .own)<|AC hb<|AD (qC v1 e)<|AG (GTask.t .own) a<|AC (p:=((done++hd::rest).map (GTask.t .own)).set (0+(i:Int).toNat) (au ((GTask.t .own) hd) 0 [tS (ag v1)])=((done++hd::rest).set (i:Int).toNat (GTask.mk (ag v1) hd.f1 hd.f2 hd.f3 hd.f4)).map (GTask.t .own)) (db (by rfl))<|AD (qC (inc v1) f)<|AC (p:=0≤(i:Int)∧(i:Int)<((((done++hd::rest).set (i:Int).toNat (GTask.mk (ag v1) hd.f1 hd.f2 hd.f3 hd.f4)).map (GTask.t .own)).length:Int)) (gK (cL a))<|AC (p:=(((done++hd::rest).set (i:Int).toNat (GTask.mk (ag v1) hd.f1 hd.f2 hd.f3 hd.f4)).map (GTask.t .own))[0+(i:Int).toNat]?=some ((GTask.t .own) (GTask.mk (ag v1) hd.f1 hd.f2 hd.f3 hd.f4))) (dg (cL a))<|AC (p:=(((done++hd::rest).set (i:Int).toNat (GTask.mk (ag v1) hd.f1 hd.f2 hd.f3 hd.f4)).map (GTask.t .own)).set (0+(i:Int).toNat) (au ((GTask.t .own) (GTask.mk (ag v1) hd.f1 hd.f2 hd.f3 hd.f4)) 1 [tS (ag (inc v1))])=((done++hd::rest).set (i:Int).toNat (GTask.mk (ag v1) (ag (inc v1)) hd.f2 hd.f3 hd.f4)).map (GTask.t .own)) (l3 (by rfl))<|AC (p:=0≤(i:Int)∧(i:Int)<((((done++hd::rest).set (i:Int).toNat (GTask.mk (ag v1) (ag (inc v1)) hd.f2 hd.f3 hd.f4)).map (GTask.t .own)).length:Int)) (gK (cL a))<|AC (p:=(((done++hd::rest).set (i:Int).toNat (GTask.mk (ag v1) (ag (inc v1)) hd.f2 hd.f3 hd.f4)).map (GTask.t .own))[0+(i:Int).toNat]?=some ((GTask.t .own) (GTask.mk (ag v1) (ag (inc v1)) hd.f2 hd.f3 hd.f4))) (dg (cL a))<|AC (p:=(((done++hd::rest).set (i:Int).toNat (GTask.mk (ag v1) (ag (inc v1)) hd.f2 hd.f3 hd.f4)).map (GTask.t .own)).set (0+(i:Int).toNat) (au ((GTask.t .own) (GTask.mk (ag v1) (ag (inc v1)) hd.f2 hd.f3 hd.f4)) 2 [tI (inc (inc v1))])=((done++hd::rest).set (i:Int).toNat (GTask.mk (ag v1) (ag (inc v1)) (inc (inc v1)) hd.f3 hd.f4)).map (GTask.t .own)) (l3 (by rfl))<|AC (p:=0≤(i:Int)∧(i:Int)<((((done++hd::rest).set (i:Int).toNat (GTask.mk (ag v1) (ag (inc v1)) (inc (inc v1)) hd.f3 hd.f4)).map (GTask.t .own)).length:Int)) (gK (cL a))<|AC (p:=(((done++hd::rest).set (i:Int).toNat (GTask.mk (ag v1) (ag (inc v1)) (inc (inc v1)) hd.f3 hd.f4)).map (GTask.t .own))[0+(i:Int).toNat]?=some ((GTask.t .own) (GTask.mk (ag v1) (ag (inc v1)) (inc (inc v1)) hd.f3 hd.f4))) (dg (cL a))<|AC (p:=(((done++hd::rest).set (i:Int).toNat (GTask.mk (ag v1) (ag (inc v1)) (inc (inc v1)) hd.f3 hd.f4)).map (GTask.t .own)).set (0+(i:Int).toNat) (au ((GTask.t .own) (GTask.mk (ag v1) (ag (inc v1)) (inc (inc v1)) hd.f3 hd.f4)) 3 [tB ((Int.tmod (inc (inc (inc v1))) (3:Int))==(0:Int))])=((done++hd::rest).set (i:Int).toNat (GTask.mk (ag v1) (ag (inc v1)) (inc (inc v1)) ((Int.tmod (inc (inc (inc v1))) (3:Int))==(0:Int)) hd.f4)).map (GTask.t .own)) (l3 (by rfl))<|AC (p:=0≤(i:Int)∧(i:Int)<((((done++hd::rest).set (i:Int).toNat (GTask.mk (ag v1) (ag (inc v1)) (inc (inc v1)) ((Int.tmod (inc (inc (inc v1))) (3:Int))==(0:Int)) hd.f4)).map (GTask.t .own)).length:Int)) (gK (cL a))<|AC (p:=(((done++hd::rest).set (i:Int).toNat (GTask.mk (ag v1) (ag (inc v1)) (inc (inc v1)) ((Int.tmod (inc (inc (inc v1))) (3:Int))==(0:Int)) hd.f4)).map (GTask.t .own))[0+(i:Int).toNat]?=some ((GTask.t .own) (GTask.mk (ag v1) (ag (inc v1)) (inc (inc v1)) ((Int.tmod (inc (inc (inc v1))) (3:Int))==(0:Int)) hd.f4))) (dg (cL a))<|AC (p:=(((done++hd::rest).set (i:Int).toNat (GTask.mk (ag v1) (ag (inc v1)) (inc (inc v1)) ((Int.tmod (inc (inc (inc v1))) (3:Int))==(0:Int)) hd.f4)).map (GTask.t .own))[0+(i:Int).toNat]?=some ((GTask.t .own) (GTask.mk (ag v1) (ag (inc v1)) (inc (inc v1)) ((Int.tmod (inc (inc (inc v1))) (3:Int))==(0:Int)) hd.f4))) (dg (cL a))<|AC (p:=(hd.f4.map etS).length=(hd.f4.map etS).length) rfl<|AV (ψ:=fun k=>E.C k 57 [.one (.s .own () 1 (hd.f4.map etS)),O0 (inc (inc (inc (inc v1))))]=some [(false,[.s .own () 1 (((aJ hd.f4 (inc (inc (inc (inc v1))))).1).map etS)]),OX ((aJ hd.f4 (inc (inc (inc (inc v1))))).2)]) (za hd.f4 (inc (inc (inc (inc v1)))) g)<|AC (p:=(((done++hd::rest).set (i:Int).toNat (GTask.mk (ag v1) (ag (inc v1)) (inc (inc v1)) ((Int.tmod (inc (inc (inc v1))) (3:Int))==(0:Int)) hd.f4)).map (GTask.t .own))[0+(i:Int).toNat]?=some ((GTask.t .own) (GTask.mk (ag v1) (ag (inc v1)) (inc (inc v1)) ((Int.tmod (inc (inc (inc v1))) (3:Int))==(0:Int)) hd.f4))) (dg (cL a))<|AC (p:=(((done++hd::rest).set (i:Int).toNat (GTask.mk (ag v1) (ag (inc v1)) (inc (inc v1)) ((Int.tmod (inc (inc (inc v1))) (3:Int))==(0:Int)) hd.f4)).map (GTask.t .own)).set (0+(i:Int).toNat) (((GTask.t .own) (GTask.mk (ag v1) (ag (inc v1)) (inc (inc v1)) ((Int.tmod (inc (inc (inc v1))) (3:Int))==(0:Int)) hd.f4)).set 4 (.s .own () 1 (((aJ hd.f4 (inc (inc (inc (inc v1))))).1).map etS)))=((done++hd::rest).set (i:Int).toNat (GTask.mk (ag v1) (ag (inc v1)) (inc (inc v1)) ((Int.tmod (inc (inc (inc v1))) (3:Int))==(0:Int)) ((aJ hd.f4 (inc (inc (inc (inc v1))))).1))).map (GTask.t .own)) (l3 (by rfl))<|AN);rw[d,yW hi]at r;cases y<;>exact OP r j
noncomputable def fy (x0:List GTask)(c:Int):Option ((List GTask)×Int):=
  if x0.length≤9223372036854775807 then(eV x0 [] 0 c).bind fun y=>match y with
   | .x0 a b=>(some (a,b))else none
theorem C4 (x0:List GTask)(c:Int):Ans (fy x0 c) (fun r=>Does E 36 [.one (.s .own () 5 (x0.map (GTask.t .own))),O0 c] [(false,[.s .own () 5 (r.1.map (GTask.t .own))]),OX r.2]):=by
 unfold fy;refine OT (fun d => ?_);refine OS (fun y e => ?_);replace e:=Bc x0 [] 0 c rfl d y e;cases y with
 |x0 a b =>have f:=e;exact OO (DP Tryz.f36 [.lp (.exit 0) (mZ a b)] (AL f<|AN))
noncomputable def bg (x:List GTask)(k:Int):(List GTask)×Int:=(fy x k).getD ([],0)
theorem CM (x0:List GTask)(a:Int)(h:fy x0 a=some (bg x0 a)):Does E 36 [.one (.s .own () 5 (x0.map (GTask.t .own))),O0 a] [(false,[.s .own () 5 (((bg x0 a).1).map (GTask.t .own))]),OX ((bg x0 a).2)]:=by exact C4 x0 a _ h
theorem tD:∀(rest done:List GTask)(i:Nat)(k:Int),(∀y∈rest,ae.sm y)→0≤k→k+1050004*(rest.length:Int)≤4611686018427387904 →
  ∃new m,eV rest done i k=some (.x0 (done++new) m)∧k≤m∧m≤k+1050004*(rest.length:Int)∧new.length=rest.length∧(∀y∈new,ae.sm y)
 |[],done,i,k,_,b,_=>⟨[],k,by unfold eV;rw[PF],by omega,by simp,rfl,fun y hy=>(by cases hy)⟩
 |x::rest,done,i,k,h,b,c=>by
  have d:=h x (by simp);rw[PH]at c ⊢;have a:=pP k (by omega);have e:inc k=k+1:=fH _ (by omega) (by omega);have t2:=pP (k+1) (by omega);have f:inc (k+1)=(k+1)+1:=fH _ (by omega) (by omega);have g:inc ((k+1)+1)=((k+1)+1)+1:=fH _ (by omega) (by omega);have j:inc (((k+1)+1)+1)=(((k+1)+1)+1)+1:=fH _ (by omega) (by omega);have a5:=yQ x.f4 ((((k+1)+1)+1)+1) d.2.2 (by omega) (by omega);have l:decide ((aJ x.f4 ((((k+1)+1)+1)+1)).2<(0:Int))=false:=Pg (by omega);obtain⟨new,m,g1,o,g3,g4,n⟩:=tD rest (done++[(GTask.mk (ag k) (ag (k+1)) ((k+1)+1) ((Int.tmod (((k+1)+1)+1) (3:Int))==(0:Int)) (aJ x.f4 ((((k+1)+1)+1)+1)).1)]) (i+1) ((aJ x.f4 ((((k+1)+1)+1)+1)).2) (fun y hy=>h y (by simp[hy])) (by omega) (by omega);refine⟨(GTask.mk (ag k) (ag (k+1)) ((k+1)+1) ((Int.tmod (((k+1)+1)+1) (3:Int))==(0:Int)) (aJ x.f4 ((((k+1)+1)+1)+1)).1)::new,m,?_,by omega,by omega,by simp[g4],?_⟩
  ·unfold eV;simp only[a.1,e,t2.1,f,g,j,a5.1,l,PK,g1,QX,QF]
  ·intro y hy;rcases PD.1 hy with rfl|hy
   ·exact⟨a.2,t2.2,a5.2.2.2.2.2⟩
   ·exact n y hy
theorem Bl (l:List GTask)(k:Int)(h:ae.sm l)(a:0≤k)(d:k+1102504200000≤4611686018427387904):fy l k=some (bg l k)∧True∧True∧k≤(bg l k).2∧(bg l k).2≤k+1102504200000∧ae.sm (bg l k).1:=by
 have f:=h.1;obtain⟨new,m,g1,b,g3,g4,c⟩:=tD l [] 0 k h.2 a (by omega);have e:fy l k=some (new,m):=by unfold fy;rw[O6 (iY h),g1];rfl
 have p:bg l k=(new,m):=by unfold bg;rw[e];rfl
 rw[p];exact⟨e,trivial,trivial,b,by omega,⟨by show new.length≤1050000;omega,c⟩⟩
noncomputable def gS (x0:GDag)(a:Int):Option (GDag×Int):=if fy x0.f5 a=some (bg x0.f5 a)then some ((GDag.mk x0.f0 x0.f1 x0.f2 x0.f3 x0.f4 ((bg x0.f5 a).1)),(bg x0.f5 a).2)else none
theorem Hb (x0:GDag)(a:Int):Ans (gS x0 a) (fun r=>Does E 12 [.agg (GDag.t .own .own x0),O0 a] [(true,GDag.t .own .own r.1),OX r.2]):=by unfold gS;refine OT (fun b => ?_);exact OO (DP Tryz.f12 [.ret [(false,[.s .own () 5 (((bg x0.f5 a).1).map (GTask.t .own))]),OX ((bg x0.f5 a).2)]] (AV (ψ:=fun k=>E.C k 36 [.one (.s .own () 5 (x0.f5.map (GTask.t .own))),O0 a]=some [(false,[.s .own () 5 (((bg x0.f5 a).1).map (GTask.t .own))]),OX ((bg x0.f5 a).2)]) (CM x0.f5 a b)<|AN))
noncomputable def ax (x:GDag)(k:Int):GDag×Int:=(gS x k).getD (x,0)
theorem oX (x0:GDag)(a:Int)(h:gS x0 a=some (ax x0 a)):Does E 12 [.agg (GDag.t .own .own x0),O0 a] [(true,GDag.t .own .own ((ax x0 a).1)),OX ((ax x0 a).2)]:=by exact Hb x0 a _ h
theorem Ft (x:GDag)(k:Int)(h:ae.sm x)(g:0≤k)(i:k+1102504200000≤4611686018427387904):gS x k=some (ax x k)∧True∧True∧k≤(ax x k).2∧(ax x k).2≤k+1102504200000∧ae.sm (ax x k).1∧(GDag.mk x.f0 x.f1 x.f2 x.f3 x.f4 (((ax x k).1).f5))=(ax x k).1:=by
 obtain⟨a,b,c⟩:=h;have d:=Bl x.f5 k c (by omega) (by omega);have f:decide ((bg x.f5 k).2<(0:Int))=false:=Pg (by omega);have e:gS x k=some ((GDag.mk x.f0 x.f1 x.f2 x.f3 x.f4 (bg x.f5 k).1),((bg x.f5 k).2)):=by unfold gS;simp only[d.1,f,PK]
 have p:ax x k=((GDag.mk x.f0 x.f1 x.f2 x.f3 x.f4 (bg x.f5 k).1),((bg x.f5 k).2)):=by unfold ax;rw[e];rfl
 rw[p];exact⟨e,trivial,trivial,by omega,by omega,⟨a,b,d.2.2.2.2.2⟩,by first|rfl|simp only[d.1,f,PK]⟩
inductive rR where|x0 (v0:List GState) (v1:Int)
def kQ (v0:List GState)(v1 v5:Int):US:=stL 41 [(0,.one (.s .own () 4 (v0.map GState.t))),(1,O0 v1),(5,O0 v5)]
def mh (a:List GState)(b:Int):US:=stL 41 [(0,.one (.s .own () 4 (a.map GState.t))),(1,O0 b)]
abbrev rQ:US→Exit→US→Prop:=Round E 37 (av Tryz.f37 0)
def zY (v0:List GState)(v1 v5:Int):rR→Prop| .x0 a b=>Loops E 37 (av Tryz.f37 0) (kQ v0 v1 v5) (.exit 0) (mh a b)
noncomputable def eb  : List GState→List GState→Nat→Int→Option rR|[],done,i,v1=>some (.x0 done v1)|hd::rest,done,i,v1=>eb rest (done++[(GState.mk v1 (inc v1) (inc (inc v1)) (inc (inc (inc v1))))]) (i+1) (inc (inc (inc (inc v1))))
theorem zX  (rest:List GState):∀(done:List GState)(i:Nat)(v1:Int),i=done.length→(done++rest).length≤9223372036854775807→Ans (eb rest done i v1) (zY (done++rest) v1 (i:Int)):=by
 induction rest with
 |nil =>intro done i v1 hi b;rw[PF];have hb:=Fj hi;unfold eb;exact OO (OQ (show rQ (kQ done v1 (i:Int)) (.exit 0) (mh done v1)from RP [O3 (done.length:Int),.b false] (ALn done GState.t<|AC hb<|AN)) (by intro h;cases h))
 |cons hd rest c =>intro done i v1 hi b;have hb:=Bj (hd:=hd) (rest:=rest) hi;have d:=Bk (hd:=hd) (rest:=rest) hi b;have a:=Fk (hd:=hd) (rest:=rest) hi;unfold eb;exact(c (done++[(GState.mk v1 (inc v1) (inc (inc v1)) (inc (inc (inc v1))))]) (i+1) (inc (inc (inc (inc v1)))) (by simp[hi]) (by simpa using b)).mono fun y e=>by have r:rQ (kQ (done++hd::rest) v1 (i:Int)) .normal (kQ ((done++hd::rest).set (i:Int).toNat (GState.mk v1 (inc v1) (inc (inc v1)) (inc (inc (inc v1))))) (inc (inc (inc (inc v1)))) (inc (i:Int))):=RP [O3 ((done++hd::rest).length:Int),.b true,.row (GState.t hd),.rows (((done++hd::rest).set (i:Int).toNat (GState.mk v1 hd.f1 hd.f2 hd.f3)).map GState.t),.row (GState.t (GState.mk v1 hd.f1 hd.f2 hd.f3)),.rows (((done++hd::rest).set (i:Int).toNat (GState.mk v1 (inc v1) hd.f2 hd.f3)).map GState.t),.row (GState.t (GState.mk v1 (inc v1) hd.f2 hd.f3)),.rows (((done++hd::rest).set (i:Int).toNat (GState.mk v1 (inc v1) (inc (inc v1)) hd.f3)).map GState.t),.row (GState.t (GState.mk v1 (inc v1) (inc (inc v1)) hd.f3)),.rows (((done++hd::rest).set (i:Int).toNat (GState.mk v1 (inc v1) (inc (inc v1)) (inc (inc (inc v1))))).map GState.t)] (ALn (done++hd::rest) GState.t<|AC hb<|AG GState.t a<|AC (p:=((done++hd::rest).map GState.t).set (0+(i:Int).toNat) (au (GState.t hd) 0 [tI v1])=((done++hd::rest).set (i:Int).toNat (GState.mk v1 hd.f1 hd.f2 hd.f3)).map GState.t) (db (by rfl))<|AC (p:=0≤(i:Int)∧(i:Int)<((((done++hd::rest).set (i:Int).toNat (GState.mk v1 hd.f1 hd.f2 hd.f3)).map GState.t).length:Int)) (gK (cL a))<|AC (p:=(((done++hd::rest).set (i:Int).toNat (GState.mk v1 hd.f1 hd.f2 hd.f3)).map GState.t)[0+(i:Int).toNat]?=some (GState.t (GState.mk v1 hd.f1 hd.f2 hd.f3))) (dg (cL a))<|AC (p:=(((done++hd::rest).set (i:Int).toNat (GState.mk v1 hd.f1 hd.f2 hd.f3)).map GState.t).set (0+(i:Int).toNat) (au (GState.t (GState.mk v1 hd.f1 hd.f2 hd.f3)) 1 [tI (inc v1)])=((done++hd::rest).set (i:Int).toNat (GState.mk v1 (inc v1) hd.f2 hd.f3)).map GState.t) (l3 (by rfl))<|AC (p:=0≤(i:Int)∧(i:Int)<((((done++hd::rest).set (i:Int).toNat (GState.mk v1 (inc v1) hd.f2 hd.f3)).map GState.t).length:Int)) (gK (cL a))<|AC (p:=(((done++hd::rest).set (i:Int).toNat (GState.mk v1 (inc v1) hd.f2 hd.f3)).map GState.t)[0+(i:Int).toNat]?=some (GState.t (GState.mk v1 (inc v1) hd.f2 hd.f3))) (dg (cL a))<|AC (p:=(((done++hd::rest).set (i:Int).toNat (GState.mk v1 (inc v1) hd.f2 hd.f3)).map GState.t).set (0+(i:Int).toNat) (au (GState.t (GState.mk v1 (inc v1) hd.f2 hd.f3)) 2 [tI (inc (inc v1))])=((done++hd::rest).set (i:Int).toNat (GState.mk v1 (inc v1) (inc (inc v1)) hd.f3)).map GState.t) (l3 (by rfl))<|AC (p:=0≤(i:Int)∧(i:Int)<((((done++hd::rest).set (i:Int).toNat (GState.mk v1 (inc v1) (inc (inc v1)) hd.f3)).map GState.t).length:Int)) (gK (cL a))<|AC (p:=(((done++hd::rest).set (i:Int).toNat (GState.mk v1 (inc v1) (inc (inc v1)) hd.f3)).map GState.t)[0+(i:Int).toNat]?=some (GState.t (GState.mk v1 (inc v1) (inc (inc v1)) hd.f3))) (dg (cL a))<|AC (p:=(((done++hd::rest).set (i:Int).toNat (GState.mk v1 (inc v1) (inc (inc v1)) hd.f3)).map GState.t).set (0+(i:Int).toNat) (au (GState.t (GState.mk v1 (inc v1) (inc (inc v1)) hd.f3)) 3 [tI (inc (inc (inc v1)))])=((done++hd::rest).set (i:Int).toNat (GState.mk v1 (inc v1) (inc (inc v1)) (inc (inc (inc v1))))).map GState.t) (l3 (by rfl))<|AN);rw[d,yW hi]at r;cases y<;>exact OP r e
noncomputable def eU (x0:List GState)(c:Int):Option ((List GState)×Int):=
  if x0.length≤9223372036854775807 then(eb x0 [] 0 c).bind fun y=>match y with
   | .x0 a b=>(some (a,b))else none
theorem Bb (x0:List GState)(c:Int):Ans (eU x0 c) (fun r=>Does E 37 [.one (.s .own () 4 (x0.map GState.t)),O0 c] [(false,[.s .own () 4 (r.1.map GState.t)]),OX r.2]):=by
 unfold eU;refine OT (fun d => ?_);refine OS (fun y e => ?_);replace e:=zX x0 [] 0 c rfl d y e;cases y with
 |x0 a b =>have f:=e;exact OO (DP Tryz.f37 [.lp (.exit 0) (mh a b)] (AL f<|AN))
inductive rP where|ret (v4:Int)|x0 (v1:Int)
def du (v0:List GState)(v1 v5:Int):US:=stL 49 [(0,.one (.s .far () 4 (v0.map GState.t))),(1,O0 v1),(5,O0 v5)]
def eS (a:Int):US:=stL 49 [(4,O0 a)]
def mg (a:Int):US:=stL 49 [(1,O0 a)]
abbrev gz:US→Exit→US→Prop:=Round E 38 (av Tryz.f38 0)
def zW (v0:List GState)(v1 v5:Int):rP→Prop| .ret a=>Loops E 38 (av Tryz.f38 0) (du v0 v1 v5) .ret (eS a)| .x0 b=>Loops E 38 (av Tryz.f38 0) (du v0 v1 v5) (.exit 0) (mg b)
noncomputable def fi  : List GState→Nat→Int→Option rP|[],i,v1=>some (.x0 v1)|hd::rest,i,v1=>cond (hd.f0 != v1) (some (.ret (-1:Int))) (cond (hd.f1 != (inc v1)) (some (.ret (-1:Int))) (cond (hd.f2 != (inc (inc v1))) (some (.ret (-1:Int))) (cond (hd.f3 != (inc (inc (inc v1)))) (some (.ret (-1:Int))) (fi rest (i+1) (inc (inc (inc (inc v1))))))))
theorem zV (v0:List GState)(rest:List GState):∀(i:Nat)(v1:Int),(v0).drop i=rest→v0.length≤9223372036854775807→Ans (fi rest i v1) (zW v0 v1 (i:Int)):=by
 induction rest with
 |nil =>intro i v1 b e;have hb:=aZ b;unfold fi;exact OO (OQ (show gz (du v0 v1 (i:Int)) (.exit 0) (mg v1)from RP [O3 (v0.length:Int),.b false] (ALn v0 GState.t<|AC hb<|AN)) (by intro h;cases h))
 |cons hd rest k =>
  intro i v1 b e;have hb:=aT b;have l:=aU b e;have f:=aE b;have a:=aW b;unfold fi;apply OR<;>intro c
  ·exact OO (OQ (show gz (du v0 v1 (i:Int)) .ret (eS (-1:Int))from RP [O3 (v0.length:Int),.b true,.row (GState.t hd),.b true] (ALn v0 GState.t<|AC hb<|AR GState.t a<|AC c<|AN)) (by intro h;cases h))
  ·apply OR<;>intro d
   ·exact OO (OQ (show gz (du v0 v1 (i:Int)) .ret (eS (-1:Int))from RP [O3 (v0.length:Int),.b true,.row (GState.t hd),.b false,.row (GState.t hd),.b true] (ALn v0 GState.t<|AC hb<|AR GState.t a<|AC c<|AR GState.t a<|AC d<|AN)) (by intro h;cases h))
   ·apply OR<;>intro g
    ·exact OO (OQ (show gz (du v0 v1 (i:Int)) .ret (eS (-1:Int))from RP [O3 (v0.length:Int),.b true,.row (GState.t hd),.b false,.row (GState.t hd),.b false,.row (GState.t hd),.b true] (ALn v0 GState.t<|AC hb<|AR GState.t a<|AC c<|AR GState.t a<|AC d<|AR GState.t a<|AC g<|AN)) (by intro h;cases h))
    ·apply OR<;>intro j
     ·exact OO (OQ (show gz (du v0 v1 (i:Int)) .ret (eS (-1:Int))from RP [O3 (v0.length:Int),.b true,.row (GState.t hd),.b false,.row (GState.t hd),.b false,.row (GState.t hd),.b false,.row (GState.t hd),.b true] (ALn v0 GState.t<|AC hb<|AR GState.t a<|AC c<|AR GState.t a<|AC d<|AR GState.t a<|AC g<|AR GState.t a<|AC j<|AN)) (by intro h;cases h))
     ·exact(k (i+1) (inc (inc (inc (inc v1)))) f e).mono fun y m=>by have r:gz (du v0 v1 (i:Int)) .normal (du v0 (inc (inc (inc (inc v1)))) (inc (i:Int))):=RP [O3 (v0.length:Int),.b true,.row (GState.t hd),.b false,.row (GState.t hd),.b false,.row (GState.t hd),.b false,.row (GState.t hd),.b false] (ALn v0 GState.t<|AC hb<|AR GState.t a<|AC c<|AR GState.t a<|AC d<|AR GState.t a<|AC g<|AR GState.t a<|AC j<|AN);rw[l]at r;cases y<;>exact OP r m
noncomputable def eT (x0:List GState)(c:Int):Option (Int):=
  if x0.length≤9223372036854775807 then(fi x0 0 c).bind fun y=>match y with
   | .ret a=>(some (a))
   | .x0 b=>(some (b))else none
theorem Ba (x0:List GState)(d:Int):Ans (eT x0 d) (fun r=>Does E 38 [.one (.s .far () 4 (x0.map GState.t)),O0 d] [OX r]):=by
 unfold eT;refine OT (fun e => ?_);refine OS (fun y c => ?_);replace c:=zV x0 x0 0 d rfl e y c;cases y with
 |ret a =>have f:=c;exact OO (DP Tryz.f38 [.lp .ret (eS a)] (AL f<|AN))
 |x0 b =>have f:=c;exact OO (DP Tryz.f38 [.lp (.exit 0) (mg b)] (AL f<|AN))
noncomputable def aI (x:List GState)(k:Int):(List GState)×Int:=(eU x k).getD ([],0)
noncomputable def cN (x:List GState)(k:Int):Int:=(eT x k).getD (-1)
theorem AJ (x0:List GState)(a:Int)(h:eU x0 a=some (aI x0 a)):Does E 37 [.one (.s .own () 4 (x0.map GState.t)),O0 a] [(false,[.s .own () 4 (((aI x0 a).1).map GState.t)]),OX ((aI x0 a).2)]:=by exact Bb x0 a _ h
theorem sU (x0:List GState)(a:Int)(h:eT x0 a=some (cN x0 a)):Does E 38 [.one (.s .far () 4 (x0.map GState.t)),O0 a] [OX (cN x0 a)]:=by exact Ba x0 a _ h
theorem rU:∀(rest done:List GState)(i:Nat)(k:Int),(∀y∈rest,ae.sm y)→0≤k→k+4*(rest.length:Int)≤4611686018427387904 →
  ∃new m,eb rest done i k=some (.x0 (done++new) m)∧k≤m∧m≤k+4*(rest.length:Int)∧new.length=rest.length∧(∀y∈new,ae.sm y)∧∀j,fi new j k=some (.x0 m)
 |[],done,i,k,_,e,_=>⟨[],k,by unfold eb;rw[PF],by omega,by simp,rfl,fun y hy=>(by cases hy),fun j=>rfl⟩
 |x::rest,done,i,k,h,e,f=>by
  have n:=h x (by simp);rw[PH]at f ⊢;have a:inc k=k+1:=fH _ (by omega) (by omega);have b:inc (k+1)=(k+1)+1:=fH _ (by omega) (by omega);have c:inc ((k+1)+1)=((k+1)+1)+1:=fH _ (by omega) (by omega);have d:inc (((k+1)+1)+1)=(((k+1)+1)+1)+1:=fH _ (by omega) (by omega);obtain⟨new,m,g1,o,g3,g4,g,l⟩:=rU rest (done++[(GState.mk k (k+1) ((k+1)+1) (((k+1)+1)+1))]) (i+1) ((((k+1)+1)+1)+1) (fun y hy=>h y (by simp[hy])) (by omega) (by omega);refine⟨(GState.mk k (k+1) ((k+1)+1) (((k+1)+1)+1))::new,m,?_,by omega,by omega,by simp[g4],?_,fun j => ?_⟩
  ·unfold eb;simp only[a,b,c,d,PK,g1,QX,QF]
  ·intro y hy;rcases PD.1 hy with rfl|hy
   ·exact trivial
   ·exact g y hy
  ·unfold fi;simp only[a,b,c,d,PK,QB,RE,Qu,Pt,Pk,l]
theorem Ad (l:List GState)(k:Int)(h:ae.sm l)(b:0≤k)(i:k+4200000≤4611686018427387904):eU l k=some (aI l k)∧eT (aI l k).1 k=some (cN (aI l k).1 k)∧cN (aI l k).1 k=(aI l k).2∧k≤(aI l k).2∧(aI l k).2≤k+4200000∧ae.sm (aI l k).1:=by
 have j:=h.1;obtain⟨new,m,g1,c,g3,g4,d,f⟩:=rU l [] 0 k h.2 b (by omega);have e:eU l k=some (new,m):=by unfold eU;rw[O6 (iY h),g1];rfl
 have p:aI l k=(new,m):=by unfold aI;rw[e];rfl
 have a:eT new k=some m:=by unfold eT;rw[O6 (by omega),f];rfl
 have g:cN new k=m:=by unfold cN;rw[a];rfl
 rw[p,g];exact⟨e,a,rfl,c,by omega,⟨by show new.length≤1050000;omega,d⟩⟩
noncomputable def fN (x0:GRun)(a:Int):Option (GRun×Int):=if eU x0.f3 a=some (aI x0.f3 a)then some ((GRun.mk x0.f0 x0.f1 x0.f2 ((aI x0.f3 a).1)),(aI x0.f3 a).2)else none
theorem Hc (x0:GRun)(a:Int):Ans (fN x0 a) (fun r=>Does E 13 [.agg (GRun.t .own x0),O0 a] [(true,GRun.t .own r.1),OX r.2]):=by unfold fN;refine OT (fun b => ?_);exact OO (DP Tryz.f13 [.ret [(false,[.s .own () 4 (((aI x0.f3 a).1).map GState.t)]),OX ((aI x0.f3 a).2)]] (AV (ψ:=fun k=>E.C k 37 [.one (.s .own () 4 (x0.f3.map GState.t)),O0 a]=some [(false,[.s .own () 4 (((aI x0.f3 a).1).map GState.t)]),OX ((aI x0.f3 a).2)]) (AJ x0.f3 a b)<|AN))
noncomputable def gR (x0:GRun)(a:Int):Option (Int):=if eT x0.f3 a=some (cN x0.f3 a)then cond (decide ((cN x0.f3 a)<(0:Int))) (some ((-1:Int))) (some (cN x0.f3 a))else none
theorem Ha (x0:GRun)(a:Int):Ans (gR x0 a) (fun r=>Does E 14 [.agg (GRun.t .far x0),O0 a] [OX r]):=by
 unfold gR;refine OT (fun b => ?_);apply OR<;>intro c
 ·exact OO (DP Tryz.f14 [.ret [OX (cN x0.f3 a)],.b true] (AD (sU x0.f3 a b)<|AC c<|AN))
 ·exact OO (DP Tryz.f14 [.ret [OX (cN x0.f3 a)],.b false] (AD (sU x0.f3 a b)<|AC c<|AN))
noncomputable def ao (x:GRun)(k:Int):GRun×Int:=(fN x k).getD (x,0)
noncomputable def dj (x:GRun)(k:Int):Int:=(gR x k).getD (-1)
theorem i6 (x0:GRun)(a:Int)(h:fN x0 a=some (ao x0 a)):Does E 13 [.agg (GRun.t .own x0),O0 a] [(true,GRun.t .own ((ao x0 a).1)),OX ((ao x0 a).2)]:=by exact Hc x0 a _ h
theorem oW (x0:GRun)(a:Int)(h:gR x0 a=some (dj x0 a)):Does E 14 [.agg (GRun.t .far x0),O0 a] [OX (dj x0 a)]:=by exact Ha x0 a _ h
theorem wP (x:GRun)(k:Int)(h:ae.sm x)(j:0≤k)(l:k+4200000≤4611686018427387904):fN x k=some (ao x k)∧gR (ao x k).1 k=some (dj (ao x k).1 k)∧dj (ao x k).1 k=(ao x k).2∧k≤(ao x k).2∧(ao x k).2≤k+4200000∧ae.sm (ao x k).1∧(GRun.mk x.f0 x.f1 x.f2 (((ao x k).1).f3))=(ao x k).1:=by
 obtain⟨b,c,d⟩:=h;have a:=Ad x.f3 k d (by omega) (by omega);have f:decide ((aI x.f3 k).2<(0:Int))=false:=Pg (by omega);have e:fN x k=some ((GRun.mk x.f0 x.f1 x.f2 (aI x.f3 k).1),((aI x.f3 k).2)):=by unfold fN;simp only[a.1,a.2.1,a.2.2.1,f,PK]
 have p:ao x k=((GRun.mk x.f0 x.f1 x.f2 (aI x.f3 k).1),((aI x.f3 k).2)):=by unfold ao;rw[e];rfl
 have g:gR (GRun.mk x.f0 x.f1 x.f2 (aI x.f3 k).1) k=some ((aI x.f3 k).2):=by unfold gR;simp only[a.1,a.2.1,a.2.2.1,f,PK,Pt]
 have i:dj (GRun.mk x.f0 x.f1 x.f2 (aI x.f3 k).1) k=((aI x.f3 k).2):=by unfold dj;rw[g];rfl
 rw[p,i];exact⟨e,g,rfl,by omega,by omega,⟨b,c,a.2.2.2.2.2⟩,by first|rfl|simp only[a.1,a.2.1,a.2.2.1,f,PK]⟩
end
end Go.Proofs.YtjlkcjlcmaoccaaGreatDoor.Am
