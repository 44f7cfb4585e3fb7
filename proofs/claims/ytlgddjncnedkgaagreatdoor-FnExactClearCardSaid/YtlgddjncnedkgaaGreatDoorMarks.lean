/- What the functions that mark boards do. -/
import Derived.Test.YtlgddjncnedkgaaGreatDoorShells
namespace Go.Proofs.YtlgddjncnedkgaaGreatDoor.Am
open Go
set_option linter.unusedVariables false
set_option linter.unusedSimpArgs false
section
open Go.Proofs Classical
set_option maxRecDepth 100000
inductive Ae where|x0 (v3:Zz)
def pc (v0:Int)(v3:Zz):US:=stL 20 [(0,Wr v0),(3,Wt v3)]
def qQ (a:Zz):US:=stL 20 [(3,Wt a)]
abbrev Ad:US→Exit→US→Prop:=Round E 57 (aq Tryz.f57 0)
def I9 (v0:Int)(v3:Zz):Ae→Prop| .x0 a=>Loops E 57 (aq Tryz.f57 0) (pc v0 v3) (.exit 0) (qQ a)
noncomputable def jc  : Nat→Int→Zz→Option Ae| 0,_,_=>none|n+1,v0,v3=>cond (decide (v0>(0:Int))) (if(strOfNums ([IntKind.wrap .u8 (IntKind.wrap .i64 ((48:Int)+(Int.tmod v0 10)))])).size+v3.size≤maxStr then jc n (IntKind.wrap .i64 (Int.tdiv v0 10)) ((strOfNums ([IntKind.wrap .u8 (IntKind.wrap .i64 ((48:Int)+(Int.tmod v0 10)))]))++v3)else none) (some (.x0 v3))
abbrev U8 (v0:Int):=[IntKind.wrap .u8 (IntKind.wrap .i64 ((48:Int)+(Int.tmod v0 10)))]
theorem I8  (n:Nat):∀(v0:Int)(v3:Zz),Ans (jc n v0 v3) (I9 v0 v3):=by
 induction n with
 |zero=>intros;exact Ans.none
 |succ n b =>
  intro v0 v3;unfold jc;apply V4<;>intro a
  ·apply V6;intro c;have r:Ad (pc v0 v3) .normal (pc (IntKind.wrap .i64 (Int.tdiv v0 10)) ((strOfNums (U8 v0))++v3)):=RP [.b true,.no,.no,.val (.string (strOfNums (U8 v0))),.val (.string ((strOfNums (U8 v0))++v3))] (AC a<|AC (p:=(ey ((((U8 v0).map etY).drop 0).take ((U8 v0).map etY).length)).map strOfNums=some (strOfNums (U8 v0))) (by simp only[Xb,W9];exact Mw)<|AC (ji (tab:=E.tab) (t:=9) c)<|AN);exact(b (IntKind.wrap .i64 (Int.tdiv v0 10)) ((strOfNums (U8 v0))++v3)).mono fun y d=>by cases y<;>exact V2 r d
  ·exact VZ (V3 (show Ad (pc v0 v3) (.exit 0) (qQ v3)from RP [.b false] (AC a<|AN)))
noncomputable def bN (b:Int):Option (Zz):=
  cond (decide (b≤(0:Int)))
   (some ((⟨#[109,48]⟩:Zz)))
   ((jc 9223372036854775808 b ByteArray.empty).bind fun y=>match y with
    | .x0 a=>(if(⟨#[109]⟩:Zz).size+a.size≤maxStr then some ((⟨#[109]⟩:Zz)++a)else none))
theorem Lf (x0:Int):Ans (bN x0) (fun r=>Does E 57 [Wr x0] [Wq r]):=by
 unfold bN;apply V4<;>intro c
 ·exact VZ (DP Tryz.f57 [.b true] (AC c<|AN))
 ·apply V5;intro y b;replace b:=I8 9223372036854775808 x0 ByteArray.empty y b;cases y with
  |x0 a =>have d:=b;apply V6;intro e;exact VZ (DP Tryz.f57 [.b false,.lp (.exit 0) (qQ a),.val (.string ((⟨#[109]⟩:Zz)++a))] (AC c<|AL d<|AC (ji (tab:=E.tab) (t:=9) e)<|AN))
noncomputable def aa (k:Int):Zz:=(bN k).getD ByteArray.empty
theorem Uy:∀(d:Nat)(n:Nat)(v:Int)(s:Zz),v<10 ^ d→v≤9223372036854775807→d<n→s.size+d≤100→∃r,jc n v s=some (.x0 r)∧r.size≤s.size+d
 |d,0,v,s,h,_,a,_=>by omega
 | 0,n+1,v,s,h,_,a,_=>by unfold jc;rw[WH (by simp at h;omega)];exact⟨s,rfl,by omega⟩
 |d+1,n+1,v,s,h,hv,a,hs=>by
  unfold jc;by_cases q:v>0
  ·rw[WJ q,WK];have e:Int.tdiv v 10=v/10:=Int.tdiv_eq_ediv_of_nonneg (by omega);rw[Int.pow_succ]at h;have z:(strOfNums [IntKind.wrap .u8 (IntKind.wrap .i64 ((48:Int)+(Int.tmod v 10)))]++s).size=s.size+1:=by rw[Y5];show 1+s.size=_;omega
   have z2:(strOfNums [IntKind.wrap .u8 (IntKind.wrap .i64 ((48:Int)+(Int.tmod v 10)))]).size+s.size≤maxStr:=by show 1+s.size≤4611686018427387904;omega
   rw[Wz z2,e,dR _ (by omega) (by omega)];obtain⟨r,b,c⟩:=Uy d n (v/10) (strOfNums [IntKind.wrap .u8 (IntKind.wrap .i64 ((48:Int)+(Int.tmod v 10)))]++s) (by omega) (by omega) (by omega) (by omega);exact⟨r,b,by omega⟩
  ·rw[WH q];exact⟨s,rfl,by omega⟩
theorem jd (k:Int)(b:k≤4611686018427387904):bN k=some (aa k)∧ab.sm (aa k):=by
 have e:∃r,bN k=some r∧r.size≤100:=by
  unfold bN;by_cases q:k≤0
  ·rw[WJ q];exact⟨_,rfl,by decide⟩
  ·rw[WH q,WO];obtain⟨r,g1,a⟩:=Uy 19 9223372036854775808 k ByteArray.empty (by omega) (by omega) (by omega) (by decide);have z:ByteArray.empty.size=0:=rfl;have z2:(⟨#[109]⟩:Zz).size=1:=rfl;rw[g1,Wy];simp only;rw[Wz (by rw[z2];unfold maxStr;omega)];exact⟨_,rfl,by rw[Y5,z2];omega⟩
 obtain⟨r,g1,a⟩:=e;have p:aa k=r:=by unfold aa;rw[g1];rfl
 rw[p];exact⟨g1,show r.size≤1050000 by omega⟩
theorem aF (a:Int)(h:bN a=some (aa a)):Does E 57 [Wr a] [Wq (aa a)]:=by exact Lf a _ h
inductive tR where|x0 (v0:List GSession) (v1:Int)
def kZ (v0:List GSession)(v1 v5:Int):US:=stL 35 [(0,.one (Ww 3 (v0.map Wg))),(1,Wr v1),(5,Wr v5)]
def mF (a:List GSession)(b:Int):US:=stL 35 [(0,.one (Ww 3 (a.map Wg))),(1,Wr b)]
abbrev tQ:US→Exit→US→Prop:=Round E 27 (aq Tryz.f27 0)
def CJ (v0:List GSession)(v1 v5:Int):tR→Prop| .x0 a b=>Loops E 27 (aq Tryz.f27 0) (kZ v0 v1 v5) (.exit 0) (mF a b)
noncomputable def dT  : List GSession→List GSession→Nat→Int→Option tR|[],done,i,v1=>some (.x0 done v1)|hd::rest,done,i,v1=>if bN (inc (inc v1))=some (aa (inc (inc v1)))then dT rest (done++[(GSession.mk v1 (inc v1) (aa (inc (inc v1))))]) (i+1) (inc (inc (inc v1)))else none
abbrev U6 (v1:Int):=inc (inc v1)
abbrev GZ (v1:Int):=inc (U6 v1)
abbrev VR (v1:Int)(hd:GSession):=GSession.mk v1 (inc v1) hd.f2
abbrev VU (v1:Int)(hd:GSession):=GSession.mk v1 hd.f1 hd.f2
noncomputable abbrev Va (v1:Int):=GSession.mk v1 (inc v1) (aa (U6 v1))
theorem CI  (rest:List GSession):∀(done:List GSession)(i:Nat)(v1:Int),i=done.length→(done++rest).length≤9223372036854775807→Ans (dT rest done i v1) (CJ (done++rest) v1 (i:Int)):=by
 induction rest with
 |nil =>intro done i v1 hi b;rw[WX];have hb:=yi hi;unfold dT;exact VZ (V3 (show tQ (kZ done v1 (i:Int)) (.exit 0) (mF done v1)from RP [Wu (done.length:Int),.b false] (ALn done Wg<|AC hb<|AN)))
 |cons hd rest c =>intro done i v1 hi b;have hb:=uz (hd:=hd) (rest:=rest) hi;have d:=uA (hd:=hd) (rest:=rest) hi b;have a:=yj (hd:=hd) (rest:=rest) hi;unfold dT;apply V6;intro e;exact(c (done++[(Va v1)]) (i+1) (GZ v1) (by simp[hi]) (by simpa using b)).mono fun y f=>by have r:tQ (kZ (done++hd::rest) v1 (i:Int)) .normal (kZ ((done++hd::rest).set (i:Int).toNat (Va v1)) (GZ v1) (inc (i:Int))):=RP [Wu ((done++hd::rest).length:Int),.b true,.row (Wg hd),.rows (((done++hd::rest).set (i:Int).toNat (VU v1 hd)).map Wg),.row (Wg (VU v1 hd)),.rows (((done++hd::rest).set (i:Int).toNat (VR v1 hd)).map Wg),.ret [Wq (aa (U6 v1))],.row (Wg (VR v1 hd)),.rows (((done++hd::rest).set (i:Int).toNat (Va v1)).map Wg)] (ALn (done++hd::rest) Wg<|AC hb<|AG Wg a<|AC (p:=((done++hd::rest).map Wg).set (0+(i:Int).toNat) (au (Wg hd) 0 [tI v1])=((done++hd::rest).set (i:Int).toNat (VU v1 hd)).map Wg) (cu (by rfl))<|AC (p:=0≤(i:Int)∧(i:Int)<((((done++hd::rest).set (i:Int).toNat (VU v1 hd)).map Wg).length:Int)) (di (aT a))<|AC (p:=(((done++hd::rest).set (i:Int).toNat (VU v1 hd)).map Wg)[0+(i:Int).toNat]?=some (Wg (VU v1 hd))) (bC (aT a))<|AC (p:=(((done++hd::rest).set (i:Int).toNat (VU v1 hd)).map Wg).set (0+(i:Int).toNat) (au (Wg (VU v1 hd)) 1 [tI (inc v1)])=((done++hd::rest).set (i:Int).toNat (VR v1 hd)).map Wg) (dt (by rfl))<|AD (aF (U6 v1) e)<|AC (p:=0≤(i:Int)∧(i:Int)<((((done++hd::rest).set (i:Int).toNat (VR v1 hd)).map Wg).length:Int)) (di (aT a))<|AC (p:=(((done++hd::rest).set (i:Int).toNat (VR v1 hd)).map Wg)[0+(i:Int).toNat]?=some (Wg (VR v1 hd))) (bC (aT a))<|AC (p:=(((done++hd::rest).set (i:Int).toNat (VR v1 hd)).map Wg).set (0+(i:Int).toNat) (au (Wg (VR v1 hd)) 2 [tS (aa (U6 v1))])=((done++hd::rest).set (i:Int).toNat (Va v1)).map Wg) (dt (by rfl))<|AN);rw[d,se hi]at r;cases y<;>exact V2 r f
noncomputable def ew (c:List GSession)(d:Int):Option ((List GSession)×Int):=
  if c.length≤9223372036854775807 then(dT c [] 0 d).bind fun y=>match y with
   | .x0 a b=>(some (a,b))else none
theorem D8 (x0:List GSession)(c:Int):Ans (ew x0 c) (fun r=>Does E 27 [.one (Ww 3 (x0.map Wg)),Wr c] [(false,[Ww 3 (r.1.map Wg)]),Wo r.2]):=by
 unfold ew;apply V6;intro d;apply V5;intro y e;replace e:=CI x0 [] 0 c rfl d y e;cases y with
 |x0 a b =>have f:=e;exact VZ (DP Tryz.f27 [.lp (.exit 0) (mF a b)] (AL f<|AN))
inductive tP where|ret (v4:Int)|x0 (v1:Int)
def dS (v0:List GSession)(v1 v5:Int):US:=stL 41 [(0,.one (Wx 3 (v0.map Wg))),(1,Wr v1),(5,Wr v5)]
def gz (a:Int):US:=stL 41 [(4,Wr a)]
def mD (a:Int):US:=stL 41 [(1,Wr a)]
abbrev jh:US→Exit→US→Prop:=Round E 30 (aq Tryz.f30 0)
def CH (v0:List GSession)(v1 v5:Int):tP→Prop| .ret a=>Loops E 30 (aq Tryz.f30 0) (dS v0 v1 v5) .ret (gz a)| .x0 b=>Loops E 30 (aq Tryz.f30 0) (dS v0 v1 v5) (.exit 0) (mD b)
noncomputable def eZ  : List GSession→Nat→Int→Option tP|[],i,v1=>some (.x0 v1)|hd::rest,i,v1=>cond (hd.f0 != v1) (some (.ret (-1:Int))) (cond (hd.f1 != (inc v1)) (some (.ret (-1:Int))) (if bN (inc (inc v1))=some (aa (inc (inc v1)))then cond (!(hd.f2.toList==(aa (inc (inc v1))).toList)) (some (.ret (-1:Int))) (eZ rest (i+1) (inc (inc (inc v1))))else none))
theorem CG (v0:List GSession)(rest:List GSession):∀(i:Nat)(v1:Int),(v0).drop i=rest→v0.length≤9223372036854775807→Ans (eZ rest i v1) (CH v0 v1 (i:Int)):=by
 induction rest with
 |nil =>intro i v1 b d;have hb:=aP b;unfold eZ;exact VZ (V3 (show jh (dS v0 v1 (i:Int)) (.exit 0) (mD v1)from RP [Wu (v0.length:Int),.b false] (ALn v0 Wg<|AC hb<|AN)))
 |cons hd rest j =>
  intro i v1 b d;have hb:=aI b;have k:=aJ b d;have e:=az b;have a:=aK b;unfold eZ;apply V4<;>intro c
  ·exact VZ (V3 (show jh (dS v0 v1 (i:Int)) .ret (gz (-1:Int))from RP [Wu (v0.length:Int),.b true,.row (Wg hd),.b true] (ALn v0 Wg<|AC hb<|AR Wg a<|AC c<|AN)))
  ·apply V4<;>intro f
   ·exact VZ (V3 (show jh (dS v0 v1 (i:Int)) .ret (gz (-1:Int))from RP [Wu (v0.length:Int),.b true,.row (Wg hd),.b false,.row (Wg hd),.b true] (ALn v0 Wg<|AC hb<|AR Wg a<|AC c<|AR Wg a<|AC f<|AN)))
   ·apply V6;intro g;apply V4<;>intro h
    ·exact VZ (V3 (show jh (dS v0 v1 (i:Int)) .ret (gz (-1:Int))from RP [Wu (v0.length:Int),.b true,.row (Wg hd),.b false,.row (Wg hd),.b false,.row (Wg hd),.ret [Wq (aa (U6 v1))],.b true] (ALn v0 Wg<|AC hb<|AR Wg a<|AC c<|AR Wg a<|AC f<|AR Wg a<|AD (aF (U6 v1) g)<|AC h<|AN)))
    ·exact(j (i+1) (GZ v1) e d).mono fun y l=>by have r:jh (dS v0 v1 (i:Int)) .normal (dS v0 (GZ v1) (inc (i:Int))):=RP [Wu (v0.length:Int),.b true,.row (Wg hd),.b false,.row (Wg hd),.b false,.row (Wg hd),.ret [Wq (aa (U6 v1))],.b false] (ALn v0 Wg<|AC hb<|AR Wg a<|AC c<|AR Wg a<|AC f<|AR Wg a<|AD (aF (U6 v1) g)<|AC h<|AN);rw[k]at r;cases y<;>exact V2 r l
noncomputable def et (c:List GSession)(d:Int):Option (Int):=
  if c.length≤9223372036854775807 then(eZ c 0 d).bind fun y=>match y with
   | .ret a=>(some (a))
   | .x0 b=>(some (b))else none
theorem D5 (x0:List GSession)(d:Int):Ans (et x0 d) (fun r=>Does E 30 [.one (Wx 3 (x0.map Wg)),Wr d] [Wo r]):=by
 unfold et;apply V6;intro e;apply V5;intro y c;replace c:=CG x0 x0 0 d rfl e y c;cases y with
 |ret a =>have f:=c;exact VZ (DP Tryz.f30 [.lp .ret (gz a)] (AL f<|AN))
 |x0 b =>have f:=c;exact VZ (DP Tryz.f30 [.lp (.exit 0) (mD b)] (AL f<|AN))
noncomputable def ap (x:List GSession)(k:Int):(List GSession)×Int:=(ew x k).getD ([],0)
noncomputable def aB (x:List GSession)(k:Int):Int:=(et x k).getD (-1)
theorem DG (a:List GSession)(b:Int)(h:ew a b=some (ap a b)):Does E 27 [.one (Ww 3 (a.map Wg)),Wr b] [(false,[Ww 3 (((ap a b).1).map Wg)]),Wo ((ap a b).2)]:=by exact D8 a b _ h
theorem lL (a:List GSession)(b:Int)(h:et a b=some (aB a b)):Does E 30 [.one (Wx 3 (a.map Wg)),Wr b] [Wo (aB a b)]:=by exact D5 a b _ h
theorem tT:∀(rest done:List GSession)(i:Nat)(k:Int),(∀y∈rest,ab.sm y)→0≤k→k+3*(rest.length:Int)≤4611686018427387904 →
  ∃new m,dT rest done i k=some (.x0 (done++new) m)∧k≤m∧m≤k+3*(rest.length:Int)∧new.length=rest.length∧(∀y∈new,ab.sm y)∧∀j,eZ new j k=some (.x0 m)
 |[],done,i,k,_,d,_=>⟨[],k,by unfold dT;rw[WX],by omega,by simp,rfl,fun y hy=>(by cases hy),fun j=>rfl⟩
 |x::rest,done,i,k,h,d,e=>by
  have l:=h x (by simp);rw[W4]at e ⊢;have a:inc k=k+1:=cr _ (by omega) (by omega);have b:inc (k+1)=(k+1)+1:=cr _ (by omega) (by omega);have t3:=jd ((k+1)+1) (by omega);have c:inc ((k+1)+1)=((k+1)+1)+1:=cr _ (by omega) (by omega);obtain⟨new,m,g1,n,g3,g4,f,g⟩:=tT rest (done++[(GSession.mk k (k+1) (aa ((k+1)+1)))]) (i+1) (((k+1)+1)+1) (fun y hy=>h y (by simp[hy])) (by omega) (by omega);refine⟨(GSession.mk k (k+1) (aa ((k+1)+1)))::new,m,?_,by omega,by omega,by simp[g4],?_,fun j=>?_⟩
  ·unfold dT;simp only[a,b,t3.1,c,W8,g1,XU,XF]
  ·intro y hy;rcases WZ.1 hy with rfl|hy
   ·exact t3.2
   ·exact f y hy
  ·unfold eZ;simp only[a,b,t3.1,c,W8,Xl,Yd,Xq,WO,WK,g]
theorem CK (l:List GSession)(k:Int)(h:ab.sm l)(b:0≤k)(i:k+3150000≤4611686018427387904):ew l k=some (ap l k)∧et (ap l k).1 k=some (aB (ap l k).1 k)∧aB (ap l k).1 k=(ap l k).2∧k≤(ap l k).2∧(ap l k).2≤k+3150000∧ab.sm (ap l k).1:=by
 have j:=h.1;obtain⟨new,m,g1,c,g3,g4,d,f⟩:=tT l [] 0 k h.2 b (by omega);have e:ew l k=some (new,m):=by unfold ew;rw[Wz (cK h),g1];rfl
 have p:ap l k=(new,m):=by unfold ap;rw[e];rfl
 have a:et new k=some m:=by unfold et;rw[Wz (by omega),f];rfl
 have g:aB new k=m:=by unfold aB;rw[a];rfl
 rw[p,g];exact⟨e,a,rfl,c,by omega,⟨by show new.length≤1050000;omega,d⟩⟩
inductive u4 where|x0 (v0:List Zz) (v1:Int)
def lX (v0:List Zz)(v1 v5:Int):US:=stL 20 [(0,.one (Ww 1 (v0.map etS))),(1,Wr v1),(5,Wr v5)]
def nf (a:List Zz)(b:Int):US:=stL 20 [(0,.one (Ww 1 (a.map etS))),(1,Wr b)]
abbrev u3:US→Exit→US→Prop:=Round E 88 (aq Tryz.f88 0)
def Ea (v0:List Zz)(v1 v5:Int):u4→Prop| .x0 a b=>Loops E 88 (aq Tryz.f88 0) (lX v0 v1 v5) (.exit 0) (nf a b)
noncomputable def ex  : List Zz→List Zz→Nat→Int→Option u4|[],done,i,v1=>some (.x0 done v1)|hd::rest,done,i,v1=>if bN v1=some (aa v1)then ex rest (done++[(aa v1)]) (i+1) (inc v1)else none
theorem D9  (rest:List Zz):∀(done:List Zz)(i:Nat)(v1:Int),i=done.length→(done++rest).length≤9223372036854775807→Ans (ex rest done i v1) (Ea (done++rest) v1 (i:Int)):=by
 induction rest with
 |nil =>intro done i v1 hi a;rw[WX];have hb:=yi hi;unfold ex;exact VZ (V3 (show u3 (lX done v1 (i:Int)) (.exit 0) (nf done v1)from RP [Wu (done.length:Int),.b false] (ALn done etS<|AC hb<|AN)))
 |cons hd rest b =>intro done i v1 hi a;have hb:=uz (hd:=hd) (rest:=rest) hi;have c:=uA (hd:=hd) (rest:=rest) hi a;have d:=yj (hd:=hd) (rest:=rest) hi;unfold ex;apply V6;intro e;exact(b (done++[(aa v1)]) (i+1) (inc v1) (by simp[hi]) (by simpa using a)).mono fun y f=>by have r:u3 (lX (done++hd::rest) v1 (i:Int)) .normal (lX ((done++hd::rest).set (i:Int).toNat (aa v1)) (inc v1) (inc (i:Int))):=RP [Wu ((done++hd::rest).length:Int),.b true,.ret [Wq (aa v1)],.row (etS hd),.rows (((done++hd::rest).set (i:Int).toNat (aa v1)).map etS)] (ALn (done++hd::rest) etS<|AC hb<|AD (aF v1 e)<|AG etS d<|AC (p:=((done++hd::rest).map etS).set (0+(i:Int).toNat) (au (etS hd) 0 [tS (aa v1)])=((done++hd::rest).set (i:Int).toNat (aa v1)).map etS) (cu (by rfl))<|AN);rw[c,se hi]at r;cases y<;>exact V2 r f
noncomputable def fd (c:List Zz)(d:Int):Option ((List Zz)×Int):=
  if c.length≤9223372036854775807 then(ex c [] 0 d).bind fun y=>match y with
   | .x0 a b=>(some (a,b))else none
theorem Fo (x0:List Zz)(c:Int):Ans (fd x0 c) (fun r=>Does E 88 [.one (Ww 1 (x0.map etS)),Wr c] [(false,[Ww 1 (r.1.map etS)]),Wo r.2]):=by
 unfold fd;apply V6;intro d;apply V5;intro y e;replace e:=D9 x0 [] 0 c rfl d y e;cases y with
 |x0 a b =>have f:=e;exact VZ (DP Tryz.f88 [.lp (.exit 0) (nf a b)] (AL f<|AN))
inductive uZ where|ret (v4:Int)|x0 (v1:Int)
def ij (v0:List Zz)(v1 v5:Int):US:=stL 22 [(0,.one (Wx 1 (v0.map etS))),(1,Wr v1),(5,Wr v5)]
def mE (a:Int):US:=stL 22 [(4,Wr a)]
def ne (a:Int):US:=stL 22 [(1,Wr a)]
abbrev pJ:US→Exit→US→Prop:=Round E 89 (aq Tryz.f89 0)
def D7 (v0:List Zz)(v1 v5:Int):uZ→Prop| .ret a=>Loops E 89 (aq Tryz.f89 0) (ij v0 v1 v5) .ret (mE a)| .x0 b=>Loops E 89 (aq Tryz.f89 0) (ij v0 v1 v5) (.exit 0) (ne b)
noncomputable def fI  : List Zz→Nat→Int→Option uZ|[],i,v1=>some (.x0 v1)|hd::rest,i,v1=>if bN v1=some (aa v1)then cond (!(hd.toList==(aa v1).toList)) (some (.ret (-1:Int))) (fI rest (i+1) (inc v1))else none
theorem D6 (v0:List Zz)(rest:List Zz):∀(i:Nat)(v1:Int),(v0).drop i=rest→v0.length≤9223372036854775807→Ans (fI rest i v1) (D7 v0 v1 (i:Int)):=by
 induction rest with
 |nil =>intro i v1 a b;have hb:=aP a;unfold fI;exact VZ (V3 (show pJ (ij v0 v1 (i:Int)) (.exit 0) (ne v1)from RP [Wu (v0.length:Int),.b false] (ALn v0 etS<|AC hb<|AN)))
 |cons hd rest g =>
  intro i v1 a b;have hb:=aI a;have h:=aJ a b;have c:=az a;have d:=aK a;unfold fI;apply V6;intro e;apply V4<;>intro f
  ·exact VZ (V3 (show pJ (ij v0 v1 (i:Int)) .ret (mE (-1:Int))from RP [Wu (v0.length:Int),.b true,.row (etS hd),.ret [Wq (aa v1)],.b true] (ALn v0 etS<|AC hb<|AR etS d<|AD (aF v1 e)<|AC f<|AN)))
  ·exact(g (i+1) (inc v1) c b).mono fun y j=>by have r:pJ (ij v0 v1 (i:Int)) .normal (ij v0 (inc v1) (inc (i:Int))):=RP [Wu (v0.length:Int),.b true,.row (etS hd),.ret [Wq (aa v1)],.b false] (ALn v0 etS<|AC hb<|AR etS d<|AD (aF v1 e)<|AC f<|AN);rw[h]at r;cases y<;>exact V2 r j
noncomputable def fb (c:List Zz)(d:Int):Option (Int):=
  if c.length≤9223372036854775807 then(fI c 0 d).bind fun y=>match y with
   | .ret a=>(some (a))
   | .x0 b=>(some (b))else none
theorem Fl (x0:List Zz)(d:Int):Ans (fb x0 d) (fun r=>Does E 89 [.one (Wx 1 (x0.map etS)),Wr d] [Wo r]):=by
 unfold fb;apply V6;intro e;apply V5;intro y c;replace c:=D6 x0 x0 0 d rfl e y c;cases y with
 |ret a =>have f:=c;exact VZ (DP Tryz.f89 [.lp .ret (mE a)] (AL f<|AN))
 |x0 b =>have f:=c;exact VZ (DP Tryz.f89 [.lp (.exit 0) (ne b)] (AL f<|AN))
noncomputable def aO (x:List Zz)(k:Int):(List Zz)×Int:=(fd x k).getD ([],0)
noncomputable def co (x:List Zz)(k:Int):Int:=(fb x k).getD (-1)
theorem Ey (a:List Zz)(b:Int)(h:fd a b=some (aO a b)):Does E 88 [.one (Ww 1 (a.map etS)),Wr b] [(false,[Ww 1 (((aO a b).1).map etS)]),Wo ((aO a b).2)]:=by exact Fo a b _ h
theorem vD (a:List Zz)(b:Int)(h:fb a b=some (co a b)):Does E 89 [.one (Wx 1 (a.map etS)),Wr b] [Wo (co a b)]:=by exact Fl a b _ h
theorem vc:∀(rest done:List Zz)(i:Nat)(k:Int),(∀y∈rest,ab.sm y)→0≤k→k+1*(rest.length:Int)≤4611686018427387904 →
  ∃new m,ex rest done i k=some (.x0 (done++new) m)∧k≤m∧m≤k+1*(rest.length:Int)∧new.length=rest.length∧(∀y∈new,ab.sm y)∧∀j,fI new j k=some (.x0 m)
 |[],done,i,k,_,c,_=>⟨[],k,by unfold ex;rw[WX],by omega,by simp,rfl,fun y hy=>(by cases hy),fun j=>rfl⟩
 |x::rest,done,i,k,h,c,d=>by
  have g:=h x (by simp);rw[W4]at d ⊢;have a:=jd k (by omega);have b:inc k=k+1:=cr _ (by omega) (by omega);obtain⟨new,m,g1,l,g3,g4,e,f⟩:=vc rest (done++[(aa k)]) (i+1) (k+1) (fun y hy=>h y (by simp[hy])) (by omega) (by omega);refine⟨(aa k)::new,m,?_,by omega,by omega,by simp[g4],?_,fun j=>?_⟩
  ·unfold ex;simp only[a.1,b,W8,g1,XU,XF]
  ·intro y hy;rcases WZ.1 hy with rfl|hy
   ·exact a.2
   ·exact e y hy
  ·unfold fI;simp only[a.1,b,W8,Xl,Yd,Xq,WO,WK,f]
theorem Ee (l:List Zz)(k:Int)(h:ab.sm l)(b:0≤k)(i:k+1050000≤4611686018427387904):fd l k=some (aO l k)∧fb (aO l k).1 k=some (co (aO l k).1 k)∧co (aO l k).1 k=(aO l k).2∧k≤(aO l k).2∧(aO l k).2≤k+1050000∧ab.sm (aO l k).1:=by
 have j:=h.1;obtain⟨new,m,g1,c,g3,g4,d,f⟩:=vc l [] 0 k h.2 b (by omega);have e:fd l k=some (new,m):=by unfold fd;rw[Wz (cK h),g1];rfl
 have p:aO l k=(new,m):=by unfold aO;rw[e];rfl
 have a:fb new k=some m:=by unfold fb;rw[Wz (by omega),f];rfl
 have g:co new k=m:=by unfold co;rw[a];rfl
 rw[p,g];exact⟨e,a,rfl,c,by omega,⟨by show new.length≤1050000;omega,d⟩⟩
inductive yd where|x0 (v0:List GTask) (v1:Int)
def nP (v0:List GTask)(v1 v5:Int):US:=stL 52 [(0,.one (Ww 5 (v0.map (Wj .own)))),(1,Wr v1),(5,Wr v5)]
def pM (a:List GTask)(b:Int):US:=stL 52 [(0,.one (Ww 5 (a.map (Wj .own)))),(1,Wr b)]
abbrev yc:US→Exit→US→Prop:=Round E 58 (aq Tryz.f58 0)
def GJ (v0:List GTask)(v1 v5:Int):yd→Prop| .x0 a b=>Loops E 58 (aq Tryz.f58 0) (nP v0 v1 v5) (.exit 0) (pM a b)
noncomputable def fW  : List GTask→List GTask→Nat→Int→Option yd|[],done,i,v1=>some (.x0 done v1)|hd::rest,done,i,v1=>if bN v1=some (aa v1)then if bN (inc v1)=some (aa (inc v1))then if fd hd.f4 (inc (inc (inc (inc v1))))=some (aO hd.f4 (inc (inc (inc (inc v1)))))then fW rest (done++[(GTask.mk (aa v1) (aa (inc v1)) (inc (inc v1)) ((Int.tmod (inc (inc (inc v1))) (3:Int))==(0:Int)) ((aO hd.f4 (inc (inc (inc (inc v1))))).1))]) (i+1) ((aO hd.f4 (inc (inc (inc (inc v1))))).2)else none else none else none
abbrev Vh (v1:Int):=(Int.tmod (GZ v1) (3:Int))==(0:Int)
noncomputable abbrev G2 (v1:Int)(hd:GTask):=GTask.mk (aa v1) (aa (inc v1)) (U6 v1) (Vh v1) hd.f4
noncomputable abbrev VB (v1:Int)(hd:GTask):=GTask.mk (aa v1) (aa (inc v1)) (U6 v1) hd.f3 hd.f4
noncomputable abbrev Vc (hd:GTask)(v1:Int):=aO hd.f4 (inc (GZ v1))
noncomputable abbrev VC (v1:Int)(hd:GTask):=GTask.mk (aa v1) (aa (inc v1)) (U6 v1) (Vh v1) ((Vc hd v1).1)
noncomputable abbrev VD (v1:Int)(hd:GTask):=GTask.mk (aa v1) (aa (inc v1)) hd.f2 hd.f3 hd.f4
noncomputable abbrev VH (v1:Int)(hd:GTask):=GTask.mk (aa v1) hd.f1 hd.f2 hd.f3 hd.f4
noncomputable abbrev Vk (v1:Int)(hd:GTask):=(Wj .own) (G2 v1 hd)
theorem GI  (rest:List GTask):∀(done:List GTask)(i:Nat)(v1:Int),i=done.length→(done++rest).length≤9223372036854775807→Ans (fW rest done i v1) (GJ (done++rest) v1 (i:Int)):=by
 induction rest with
 |nil =>intro done i v1 hi b;rw[WX];have hb:=yi hi;unfold fW;exact VZ (V3 (show yc (nP done v1 (i:Int)) (.exit 0) (pM done v1)from RP [Wu (done.length:Int),.b false] (ALn done (Wj .own)<|AC hb<|AN)))
 |cons hd rest c =>intro done i v1 hi b;have hb:=uz (hd:=hd) (rest:=rest) hi;have d:=uA (hd:=hd) (rest:=rest) hi b;have a:=yj (hd:=hd) (rest:=rest) hi;unfold fW;apply V6;intro e;apply V6;intro f;apply V6;intro g;exact(c (done++[(VC v1 hd)]) (i+1) ((Vc hd v1).2) (by simp[hi]) (by simpa using b)).mono fun y h=>by have r:yc (nP (done++hd::rest) v1 (i:Int)) .normal (nP ((done++hd::rest).set (i:Int).toNat (VC v1 hd)) ((Vc hd v1).2) (inc (i:Int))):=RP [Wu ((done++hd::rest).length:Int),.b true,.ret [Wq (aa v1)],.row ((Wj .own) hd),.rows (((done++hd::rest).set (i:Int).toNat (VH v1 hd)).map (Wj .own)),.ret [Wq (aa (inc v1))],.row ((Wj .own) (VH v1 hd)),.rows (((done++hd::rest).set (i:Int).toNat (VD v1 hd)).map (Wj .own)),.row ((Wj .own) (VD v1 hd)),.rows (((done++hd::rest).set (i:Int).toNat (VB v1 hd)).map (Wj .own)),.row ((Wj .own) (VB v1 hd)),.rows (((done++hd::rest).set (i:Int).toNat (G2 v1 hd)).map (Wj .own)),.row (Vk v1 hd),.row (Vk v1 hd),.ret [(false,[Ww 1 (((Vc hd v1).1).map etS)]),Wo ((Vc hd v1).2)],.row (Vk v1 hd),.rows (((done++hd::rest).set (i:Int).toNat (VC v1 hd)).map (Wj .own))] (ALn (done++hd::rest) (Wj .own)<|AC hb<|AD (aF v1 e)<|AG (Wj .own) a<|AC (p:=((done++hd::rest).map (Wj .own)).set (0+(i:Int).toNat) (au ((Wj .own) hd) 0 [tS (aa v1)])=((done++hd::rest).set (i:Int).toNat (VH v1 hd)).map (Wj .own)) (cu (by rfl))<|AD (aF (inc v1) f)<|AC (p:=0≤(i:Int)∧(i:Int)<((((done++hd::rest).set (i:Int).toNat (VH v1 hd)).map (Wj .own)).length:Int)) (di (aT a))<|AC (p:=(((done++hd::rest).set (i:Int).toNat (VH v1 hd)).map (Wj .own))[0+(i:Int).toNat]?=some ((Wj .own) (VH v1 hd))) (bC (aT a))<|AC (p:=(((done++hd::rest).set (i:Int).toNat (VH v1 hd)).map (Wj .own)).set (0+(i:Int).toNat) (au ((Wj .own) (VH v1 hd)) 1 [tS (aa (inc v1))])=((done++hd::rest).set (i:Int).toNat (VD v1 hd)).map (Wj .own)) (dt (by rfl))<|AC (p:=0≤(i:Int)∧(i:Int)<((((done++hd::rest).set (i:Int).toNat (VD v1 hd)).map (Wj .own)).length:Int)) (di (aT a))<|AC (p:=(((done++hd::rest).set (i:Int).toNat (VD v1 hd)).map (Wj .own))[0+(i:Int).toNat]?=some ((Wj .own) (VD v1 hd))) (bC (aT a))<|AC (p:=(((done++hd::rest).set (i:Int).toNat (VD v1 hd)).map (Wj .own)).set (0+(i:Int).toNat) (au ((Wj .own) (VD v1 hd)) 2 [tI (U6 v1)])=((done++hd::rest).set (i:Int).toNat (VB v1 hd)).map (Wj .own)) (dt (by rfl))<|AC (p:=0≤(i:Int)∧(i:Int)<((((done++hd::rest).set (i:Int).toNat (VB v1 hd)).map (Wj .own)).length:Int)) (di (aT a))<|AC (p:=(((done++hd::rest).set (i:Int).toNat (VB v1 hd)).map (Wj .own))[0+(i:Int).toNat]?=some ((Wj .own) (VB v1 hd))) (bC (aT a))<|AC (p:=(((done++hd::rest).set (i:Int).toNat (VB v1 hd)).map (Wj .own)).set (0+(i:Int).toNat) (au ((Wj .own) (VB v1 hd)) 3 [tB (Vh v1)])=((done++hd::rest).set (i:Int).toNat (G2 v1 hd)).map (Wj .own)) (dt (by rfl))<|AC (p:=0≤(i:Int)∧(i:Int)<((((done++hd::rest).set (i:Int).toNat (G2 v1 hd)).map (Wj .own)).length:Int)) (di (aT a))<|AC (p:=(((done++hd::rest).set (i:Int).toNat (G2 v1 hd)).map (Wj .own))[0+(i:Int).toNat]?=some (Vk v1 hd)) (bC (aT a))<|AC (p:=(((done++hd::rest).set (i:Int).toNat (G2 v1 hd)).map (Wj .own))[0+(i:Int).toNat]?=some (Vk v1 hd)) (bC (aT a))<|AC (p:=(hd.f4.map etS).length=(hd.f4.map etS).length) rfl<|AV (ψ:=fun k=>E.C k 88 [.one (Ww 1 (hd.f4.map etS)),Wr (inc (GZ v1))]=some [(false,[Ww 1 (((Vc hd v1).1).map etS)]),Wo ((Vc hd v1).2)]) (Ey hd.f4 (inc (GZ v1)) g)<|AC (p:=(((done++hd::rest).set (i:Int).toNat (G2 v1 hd)).map (Wj .own))[0+(i:Int).toNat]?=some (Vk v1 hd)) (bC (aT a))<|AC (p:=(((done++hd::rest).set (i:Int).toNat (G2 v1 hd)).map (Wj .own)).set (0+(i:Int).toNat) ((Vk v1 hd).set 4 (Ww 1 (((Vc hd v1).1).map etS)))=((done++hd::rest).set (i:Int).toNat (VC v1 hd)).map (Wj .own)) (dt (by rfl))<|AN);rw[d,se hi]at r;cases y<;>exact V2 r h
noncomputable def gV (c:List GTask)(d:Int):Option ((List GTask)×Int):=
  if c.length≤9223372036854775807 then(fW c [] 0 d).bind fun y=>match y with
   | .x0 a b=>(some (a,b))else none
theorem I7 (x0:List GTask)(c:Int):Ans (gV x0 c) (fun r=>Does E 58 [.one (Ww 5 (x0.map (Wj .own))),Wr c] [(false,[Ww 5 (r.1.map (Wj .own))]),Wo r.2]):=by
 unfold gV;apply V6;intro d;apply V5;intro y e;replace e:=GI x0 [] 0 c rfl d y e;cases y with
 |x0 a b =>have f:=e;exact VZ (DP Tryz.f58 [.lp (.exit 0) (pM a b)] (AL f<|AN))
inductive x9 where|ret (v4:Int)|x0 (v1:Int)
def dO (q0:Kd)(v0:List GTask)(v1 v5:Int):US:=stL 62 [(0,.one (Wx 5 (v0.map (Wj q0)))),(1,Wr v1),(5,Wr v5)]
def e7 (q0:Kd)(a:Int):US:=stL 62 [(4,Wr a)]
def pK (q0:Kd)(a:Int):US:=stL 62 [(1,Wr a)]
abbrev ik:US→Exit→US→Prop:=Round E 60 (aq Tryz.f60 0)
def GE {q0:Kd}(v0:List GTask)(v1 v5:Int):x9→Prop| .ret a=>Loops E 60 (aq Tryz.f60 0) (dO q0 v0 v1 v5) .ret (e7 q0 a)| .x0 b=>Loops E 60 (aq Tryz.f60 0) (dO q0 v0 v1 v5) (.exit 0) (pK q0 b)
noncomputable def il  : List GTask→Nat→Int→Option x9|[],i,v1=>some (.x0 v1)|hd::rest,i,v1=>if bN v1=some (aa v1)then cond (!(hd.f0.toList==(aa v1).toList)) (some (.ret (-1:Int))) (if bN (inc v1)=some (aa (inc v1))then cond (!(hd.f1.toList==(aa (inc v1)).toList)) (some (.ret (-1:Int))) (cond (hd.f2 != (inc (inc v1))) (some (.ret (-1:Int))) (cond (!(hd.f3==((Int.tmod (inc (inc (inc v1))) (3:Int))==(0:Int)))) (some (.ret (-1:Int))) (if fb hd.f4 (inc (inc (inc (inc v1))))=some (co hd.f4 (inc (inc (inc (inc v1)))))then cond (decide ((co hd.f4 (inc (inc (inc (inc v1)))))<(0:Int))) (some (.ret (-1:Int))) (il rest (i+1) (co hd.f4 (inc (inc (inc (inc v1))))))else none)))else none)else none
theorem GD {q0:Kd}(v0:List GTask)(rest:List GTask):∀(i:Nat)(v1:Int),(v0).drop i=rest→v0.length≤9223372036854775807→Ans (il rest i v1) (GE (q0:=q0) v0 v1 (i:Int)):=by
 induction rest with
 |nil =>intro i v1 b h;have hb:=aP b;unfold il;exact VZ (V3 (show ik (dO q0 v0 v1 (i:Int)) (.exit 0) (pK q0 v1)from RP [Wu (v0.length:Int),.b false] (ALn v0 (Wj q0)<|AC hb<|AN)))
 |cons hd rest n =>
  intro i v1 b h;have hb:=aI b;have o:=aJ b h;have j:=az b;have a:=aK b;unfold il;apply V6;intro c;apply V4<;>intro d
  ·exact VZ (V3 (show ik (dO q0 v0 v1 (i:Int)) .ret (e7 q0 (-1:Int))from RP [Wu (v0.length:Int),.b true,.row ((Wj q0) hd),.ret [Wq (aa v1)],.b true] (ALn v0 (Wj q0)<|AC hb<|AR (Wj q0) a<|AD (aF v1 c)<|AC d<|AN)))
  ·apply V6;intro e;apply V4<;>intro f
   ·exact VZ (V3 (show ik (dO q0 v0 v1 (i:Int)) .ret (e7 q0 (-1:Int))from RP [Wu (v0.length:Int),.b true,.row ((Wj q0) hd),.ret [Wq (aa v1)],.b false,.row ((Wj q0) hd),.ret [Wq (aa (inc v1))],.b true] (ALn v0 (Wj q0)<|AC hb<|AR (Wj q0) a<|AD (aF v1 c)<|AC d<|AR (Wj q0) a<|AD (aF (inc v1) e)<|AC f<|AN)))
   ·apply V4<;>intro g
    ·exact VZ (V3 (show ik (dO q0 v0 v1 (i:Int)) .ret (e7 q0 (-1:Int))from RP [Wu (v0.length:Int),.b true,.row ((Wj q0) hd),.ret [Wq (aa v1)],.b false,.row ((Wj q0) hd),.ret [Wq (aa (inc v1))],.b false,.row ((Wj q0) hd),.b true] (ALn v0 (Wj q0)<|AC hb<|AR (Wj q0) a<|AD (aF v1 c)<|AC d<|AR (Wj q0) a<|AD (aF (inc v1) e)<|AC f<|AR (Wj q0) a<|AC g<|AN)))
    ·apply V4<;>intro k
     ·exact VZ (V3 (show ik (dO q0 v0 v1 (i:Int)) .ret (e7 q0 (-1:Int))from RP [Wu (v0.length:Int),.b true,.row ((Wj q0) hd),.ret [Wq (aa v1)],.b false,.row ((Wj q0) hd),.ret [Wq (aa (inc v1))],.b false,.row ((Wj q0) hd),.b false,.row ((Wj q0) hd),.no,.no,.b true] (ALn v0 (Wj q0)<|AC hb<|AR (Wj q0) a<|AD (aF v1 c)<|AC d<|AR (Wj q0) a<|AD (aF (inc v1) e)<|AC f<|AR (Wj q0) a<|AC g<|AR (Wj q0) a<|AC k<|AN)))
     ·apply V6;intro l;apply V4<;>intro m
      ·exact VZ (V3 (show ik (dO q0 v0 v1 (i:Int)) .ret (e7 q0 (-1:Int))from RP [Wu (v0.length:Int),.b true,.row ((Wj q0) hd),.ret [Wq (aa v1)],.b false,.row ((Wj q0) hd),.ret [Wq (aa (inc v1))],.b false,.row ((Wj q0) hd),.b false,.row ((Wj q0) hd),.no,.no,.b false,.row ((Wj q0) hd),.ret [Wo (co hd.f4 (inc (GZ v1)))],.b true] (ALn v0 (Wj q0)<|AC hb<|AR (Wj q0) a<|AD (aF v1 c)<|AC d<|AR (Wj q0) a<|AD (aF (inc v1) e)<|AC f<|AR (Wj q0) a<|AC g<|AR (Wj q0) a<|AC k<|AR (Wj q0) a<|AD (vD hd.f4 (inc (GZ v1)) l)<|AC m<|AN)))
      ·exact(n (i+1) (co hd.f4 (inc (GZ v1))) j h).mono fun y p=>by have r:ik (dO q0 v0 v1 (i:Int)) .normal (dO q0 v0 (co hd.f4 (inc (GZ v1))) (inc (i:Int))):=RP [Wu (v0.length:Int),.b true,.row ((Wj q0) hd),.ret [Wq (aa v1)],.b false,.row ((Wj q0) hd),.ret [Wq (aa (inc v1))],.b false,.row ((Wj q0) hd),.b false,.row ((Wj q0) hd),.no,.no,.b false,.row ((Wj q0) hd),.ret [Wo (co hd.f4 (inc (GZ v1)))],.b false] (ALn v0 (Wj q0)<|AC hb<|AR (Wj q0) a<|AD (aF v1 c)<|AC d<|AR (Wj q0) a<|AD (aF (inc v1) e)<|AC f<|AR (Wj q0) a<|AC g<|AR (Wj q0) a<|AC k<|AR (Wj q0) a<|AD (vD hd.f4 (inc (GZ v1)) l)<|AC m<|AN);rw[o]at r;cases y<;>exact V2 r p
noncomputable def gS (c:List GTask)(d:Int):Option (Int):=
  if c.length≤9223372036854775807 then(il c 0 d).bind fun y=>match y with
   | .ret a=>(some (a))
   | .x0 b=>(some (b))else none
theorem IY {q0:Kd}(x0:List GTask)(d:Int):Ans (gS x0 d) (fun r=>Does E 60 [.one (Wx 5 (x0.map (Wj q0))),Wr d] [Wo r]):=by
 unfold gS;apply V6;intro e;apply V5;intro y c;replace c:=GD (q0:=q0) x0 x0 0 d rfl e y c;cases y with
 |ret a =>have f:=c;exact VZ (DP Tryz.f60 [.lp .ret (e7 q0 a)] (AL f<|AN))
 |x0 b =>have f:=c;exact VZ (DP Tryz.f60 [.lp (.exit 0) (pK q0 b)] (AL f<|AN))
noncomputable def ai (x:List GTask)(k:Int):(List GTask)×Int:=(gV x k).getD ([],0)
noncomputable def bi (x:List GTask)(k:Int):Int:=(gS x k).getD (-1)
theorem Iw (a:List GTask)(b:Int)(h:gV a b=some (ai a b)):Does E 58 [.one (Ww 5 (a.map (Wj .own))),Wr b] [(false,[Ww 5 (((ai a b).1).map (Wj .own))]),Wo ((ai a b).2)]:=by exact I7 a b _ h
theorem md {q0:Kd}(a:List GTask)(b:Int)(h:gS a b=some (bi a b)):Does E 60 [.one (Wx 5 (a.map (Wj q0))),Wr b] [Wo (bi a b)]:=by exact IY a b _ h
theorem yl:∀(rest done:List GTask)(i:Nat)(k:Int),(∀y∈rest,ab.sm y)→0≤k→k+1050004*(rest.length:Int)≤4611686018427387904 →
  ∃new m,fW rest done i k=some (.x0 (done++new) m)∧k≤m∧m≤k+1050004*(rest.length:Int)∧new.length=rest.length∧(∀y∈new,ab.sm y)∧∀j,il new j k=some (.x0 m)
 |[],done,i,k,_,g,_=>⟨[],k,by unfold fW;rw[WX],by omega,by simp,rfl,fun y hy=>(by cases hy),fun j=>rfl⟩
 |x::rest,done,i,k,h,g,l=>by
  have n:=h x (by simp);rw[W4]at l ⊢;have a:=jd k (by omega);have b:inc k=k+1:=cr _ (by omega) (by omega);have t2:=jd (k+1) (by omega);have c:inc (k+1)=(k+1)+1:=cr _ (by omega) (by omega);have d:inc ((k+1)+1)=((k+1)+1)+1:=cr _ (by omega) (by omega);have e:inc (((k+1)+1)+1)=(((k+1)+1)+1)+1:=cr _ (by omega) (by omega);have a5:=Ee x.f4 ((((k+1)+1)+1)+1) n.2.2 (by omega) (by omega);have f:decide ((aO x.f4 ((((k+1)+1)+1)+1)).2<(0:Int))=false:=WH (by omega);obtain⟨new,m,g1,q,g3,g4,o,p⟩:=yl rest (done++[(GTask.mk (aa k) (aa (k+1)) ((k+1)+1) ((Int.tmod (((k+1)+1)+1) (3:Int))==(0:Int)) (aO x.f4 ((((k+1)+1)+1)+1)).1)]) (i+1) ((aO x.f4 ((((k+1)+1)+1)+1)).2) (fun y hy=>h y (by simp[hy])) (by omega) (by omega);refine⟨(GTask.mk (aa k) (aa (k+1)) ((k+1)+1) ((Int.tmod (((k+1)+1)+1) (3:Int))==(0:Int)) (aO x.f4 ((((k+1)+1)+1)+1)).1)::new,m,?_,by omega,by omega,by simp[g4],?_,fun j=>?_⟩
  ·unfold fW;simp only[a.1,b,t2.1,c,d,e,a5.1,a5.2.1,a5.2.2.1,f,W8,g1,XU,XF]
  ·intro y hy;rcases WZ.1 hy with rfl|hy
   ·exact⟨a.2,t2.2,a5.2.2.2.2.2⟩
   ·exact o y hy
  ·unfold il;simp only[a.1,b,t2.1,c,d,e,a5.1,a5.2.1,a5.2.2.1,f,W8,Xl,Yd,Xq,WO,WK,p]
theorem GU (l:List GTask)(k:Int)(h:ab.sm l)(b:0≤k)(i:k+1102504200000≤4611686018427387904):gV l k=some (ai l k)∧gS (ai l k).1 k=some (bi (ai l k).1 k)∧bi (ai l k).1 k=(ai l k).2∧k≤(ai l k).2∧(ai l k).2≤k+1102504200000∧ab.sm (ai l k).1:=by
 have j:=h.1;obtain⟨new,m,g1,c,g3,g4,d,f⟩:=yl l [] 0 k h.2 b (by omega);have e:gV l k=some (new,m):=by unfold gV;rw[Wz (cK h),g1];rfl
 have p:ai l k=(new,m):=by unfold ai;rw[e];rfl
 have a:gS new k=some m:=by unfold gS;rw[Wz (by omega),f];rfl
 have g:bi new k=m:=by unfold bi;rw[a];rfl
 rw[p,g];exact⟨e,a,rfl,c,by omega,⟨by show new.length≤1050000;omega,d⟩⟩
inductive yb where|x0 (v0:List GPlan) (v1:Int)
def nO (v0:List GPlan)(v1 v5:Int):US:=stL 88 [(0,.one (Ww 9 (v0.map (Wd .own .own)))),(1,Wr v1),(5,Wr v5)]
def pL (a:List GPlan)(b:Int):US:=stL 88 [(0,.one (Ww 9 (a.map (Wd .own .own)))),(1,Wr b)]
abbrev ya:US→Exit→US→Prop:=Round E 28 (aq Tryz.f28 0)
def GG (v0:List GPlan)(v1 v5:Int):yb→Prop| .x0 a b=>Loops E 28 (aq Tryz.f28 0) (nO v0 v1 v5) (.exit 0) (pL a b)
noncomputable def fU  : List GPlan→List GPlan→Nat→Int→Option yb|[],done,i,v1=>some (.x0 done v1)|hd::rest,done,i,v1=>if bN v1=some (aa v1)then if bN (inc v1)=some (aa (inc v1))then if gV hd.f0.f5 (inc (inc (inc (inc (inc v1)))))=some (ai hd.f0.f5 (inc (inc (inc (inc (inc v1))))))then fU rest (done++[(GPlan.mk (GDag.mk (aa v1) (aa (inc v1)) (inc (inc v1)) (inc (inc (inc v1))) ((Int.tmod (inc (inc (inc (inc v1)))) (3:Int))==(0:Int)) ((ai hd.f0.f5 (inc (inc (inc (inc (inc v1)))))).1)) ((Int.tmod ((ai hd.f0.f5 (inc (inc (inc (inc (inc v1)))))).2) (3:Int))==(0:Int)) (inc ((ai hd.f0.f5 (inc (inc (inc (inc (inc v1)))))).2)) (inc (inc ((ai hd.f0.f5 (inc (inc (inc (inc (inc v1)))))).2))))]) (i+1) (inc (inc (inc ((ai hd.f0.f5 (inc (inc (inc (inc (inc v1)))))).2))))else none else none else none
abbrev U7 (v1:Int):=inc (inc (GZ v1))
abbrev Ve (v1:Int):=(Int.tmod (inc (GZ v1)) (3:Int))==(0:Int)
noncomputable abbrev Vf (hd:GPlan)(v1:Int):=ai hd.f0.f5 (U7 v1)
noncomputable abbrev D0 (v1:Int)(hd:GPlan):=GDag.mk (aa v1) (aa (inc v1)) (U6 v1) (GZ v1) (Ve v1) ((Vf hd v1).1)
noncomputable abbrev G0 (v1:Int)(hd:GPlan):=GPlan.mk (GDag.mk (aa v1) (aa (inc v1)) (U6 v1) (GZ v1) (Ve v1) hd.f0.f5) hd.f1 hd.f2 hd.f3
noncomputable abbrev G1 (hd:GPlan)(v1:Int):=(Int.tmod ((Vf hd v1).2) (3:Int))==(0:Int)
abbrev H2:=Wd .own .own
noncomputable abbrev IT (v1:Int)(hd:GPlan):=GPlan.mk (GDag.mk (aa v1) (aa (inc v1)) (U6 v1) hd.f0.f3 hd.f0.f4 hd.f0.f5) hd.f1 hd.f2 hd.f3
noncomputable abbrev P0 (v1:Int)(hd:GPlan):=GPlan.mk (GDag.mk (aa v1) (aa (inc v1)) (U6 v1) (GZ v1) hd.f0.f4 hd.f0.f5) hd.f1 hd.f2 hd.f3
noncomputable abbrev U1 (hd:GPlan)(v1:Int):=inc ((Vf hd v1).2)
noncomputable abbrev U4 (v1:Int)(hd:GPlan):=GPlan.mk (GDag.mk (aa v1) (aa (inc v1)) hd.f0.f2 hd.f0.f3 hd.f0.f4 hd.f0.f5) hd.f1 hd.f2 hd.f3
noncomputable abbrev U5 (v1:Int)(hd:GPlan):=GPlan.mk (GDag.mk (aa v1) hd.f0.f1 hd.f0.f2 hd.f0.f3 hd.f0.f4 hd.f0.f5) hd.f1 hd.f2 hd.f3
noncomputable abbrev VE (v1:Int)(hd:GPlan):=GPlan.mk (D0 v1 hd) (G1 hd v1) (U1 hd v1) hd.f3
noncomputable abbrev VG (v1:Int)(hd:GPlan):=GPlan.mk (D0 v1 hd) (G1 hd v1) hd.f2 hd.f3
noncomputable abbrev VJ (v1:Int)(hd:GPlan):=GPlan.mk (D0 v1 hd) hd.f1 hd.f2 hd.f3
noncomputable abbrev VQ (v1:Int)(hd:GPlan):=GPlan.mk (D0 v1 hd) (G1 hd v1) (U1 hd v1) (inc (U1 hd v1))
theorem GF  (rest:List GPlan):∀(done:List GPlan)(i:Nat)(v1:Int),i=done.length→(done++rest).length≤9223372036854775807→Ans (fU rest done i v1) (GG (done++rest) v1 (i:Int)):=by
 induction rest with
 |nil =>intro done i v1 hi b;rw[WX];have hb:=yi hi;unfold fU;exact VZ (V3 (show ya (nO done v1 (i:Int)) (.exit 0) (pL done v1)from RP [Wu (done.length:Int),.b false] (ALn done H2<|AC hb<|AN)))
 |cons hd rest c =>intro done i v1 hi b;have hb:=uz (hd:=hd) (rest:=rest) hi;have d:=uA (hd:=hd) (rest:=rest) hi b;have a:=yj (hd:=hd) (rest:=rest) hi;unfold fU;apply V6;intro e;apply V6;intro f;apply V6;intro g;exact(c (done++[(VQ v1 hd)]) (i+1) (inc (inc (U1 hd v1))) (by simp[hi]) (by simpa using b)).mono fun y h=>by have r:ya (nO (done++hd::rest) v1 (i:Int)) .normal (nO ((done++hd::rest).set (i:Int).toNat (VQ v1 hd)) (inc (inc (U1 hd v1))) (inc (i:Int))):=RP [Wu ((done++hd::rest).length:Int),.b true,.ret [Wq (aa v1)],.row (H2 hd),.rows (((done++hd::rest).set (i:Int).toNat (U5 v1 hd)).map H2),.ret [Wq (aa (inc v1))],.row (H2 (U5 v1 hd)),.rows (((done++hd::rest).set (i:Int).toNat (U4 v1 hd)).map H2),.row (H2 (U4 v1 hd)),.rows (((done++hd::rest).set (i:Int).toNat (IT v1 hd)).map H2),.row (H2 (IT v1 hd)),.rows (((done++hd::rest).set (i:Int).toNat (P0 v1 hd)).map H2),.row (H2 (P0 v1 hd)),.rows (((done++hd::rest).set (i:Int).toNat (G0 v1 hd)).map H2),.row (H2 (G0 v1 hd)),.row (H2 (G0 v1 hd)),.ret [(false,[Ww 5 (((Vf hd v1).1).map (Wj .own))]),Wo ((Vf hd v1).2)],.row (H2 (G0 v1 hd)),.rows (((done++hd::rest).set (i:Int).toNat (VJ v1 hd)).map H2),.row (H2 (VJ v1 hd)),.rows (((done++hd::rest).set (i:Int).toNat (VG v1 hd)).map H2),.row (H2 (VG v1 hd)),.rows (((done++hd::rest).set (i:Int).toNat (VE v1 hd)).map H2),.row (H2 (VE v1 hd)),.rows (((done++hd::rest).set (i:Int).toNat (VQ v1 hd)).map H2)] (ALn (done++hd::rest) H2<|AC hb<|AD (aF v1 e)<|AG H2 a<|AC (p:=((done++hd::rest).map H2).set (0+(i:Int).toNat) (au (H2 hd) 0 [tS (aa v1)])=((done++hd::rest).set (i:Int).toNat (U5 v1 hd)).map H2) (cu (by rfl))<|AD (aF (inc v1) f)<|AC (p:=0≤(i:Int)∧(i:Int)<((((done++hd::rest).set (i:Int).toNat (U5 v1 hd)).map H2).length:Int)) (di (aT a))<|AC (p:=(((done++hd::rest).set (i:Int).toNat (U5 v1 hd)).map H2)[0+(i:Int).toNat]?=some (H2 (U5 v1 hd))) (bC (aT a))<|AC (p:=(((done++hd::rest).set (i:Int).toNat (U5 v1 hd)).map H2).set (0+(i:Int).toNat) (au (H2 (U5 v1 hd)) 1 [tS (aa (inc v1))])=((done++hd::rest).set (i:Int).toNat (U4 v1 hd)).map H2) (dt (by rfl))<|AC (p:=0≤(i:Int)∧(i:Int)<((((done++hd::rest).set (i:Int).toNat (U4 v1 hd)).map H2).length:Int)) (di (aT a))<|AC (p:=(((done++hd::rest).set (i:Int).toNat (U4 v1 hd)).map H2)[0+(i:Int).toNat]?=some (H2 (U4 v1 hd))) (bC (aT a))<|AC (p:=(((done++hd::rest).set (i:Int).toNat (U4 v1 hd)).map H2).set (0+(i:Int).toNat) (au (H2 (U4 v1 hd)) 2 [tI (U6 v1)])=((done++hd::rest).set (i:Int).toNat (IT v1 hd)).map H2) (dt (by rfl))<|AC (p:=0≤(i:Int)∧(i:Int)<((((done++hd::rest).set (i:Int).toNat (IT v1 hd)).map H2).length:Int)) (di (aT a))<|AC (p:=(((done++hd::rest).set (i:Int).toNat (IT v1 hd)).map H2)[0+(i:Int).toNat]?=some (H2 (IT v1 hd))) (bC (aT a))<|AC (p:=(((done++hd::rest).set (i:Int).toNat (IT v1 hd)).map H2).set (0+(i:Int).toNat) (au (H2 (IT v1 hd)) 3 [tI (GZ v1)])=((done++hd::rest).set (i:Int).toNat (P0 v1 hd)).map H2) (dt (by rfl))<|AC (p:=0≤(i:Int)∧(i:Int)<((((done++hd::rest).set (i:Int).toNat (P0 v1 hd)).map H2).length:Int)) (di (aT a))<|AC (p:=(((done++hd::rest).set (i:Int).toNat (P0 v1 hd)).map H2)[0+(i:Int).toNat]?=some (H2 (P0 v1 hd))) (bC (aT a))<|AC (p:=(((done++hd::rest).set (i:Int).toNat (P0 v1 hd)).map H2).set (0+(i:Int).toNat) (au (H2 (P0 v1 hd)) 4 [tB (Ve v1)])=((done++hd::rest).set (i:Int).toNat (G0 v1 hd)).map H2) (dt (by rfl))<|AC (p:=0≤(i:Int)∧(i:Int)<((((done++hd::rest).set (i:Int).toNat (G0 v1 hd)).map H2).length:Int)) (di (aT a))<|AC (p:=(((done++hd::rest).set (i:Int).toNat (G0 v1 hd)).map H2)[0+(i:Int).toNat]?=some (H2 (G0 v1 hd))) (bC (aT a))<|AC (p:=(((done++hd::rest).set (i:Int).toNat (G0 v1 hd)).map H2)[0+(i:Int).toNat]?=some (H2 (G0 v1 hd))) (bC (aT a))<|AC (p:=(hd.f0.f5.map (Wj .own)).length=(hd.f0.f5.map (Wj .own)).length) rfl<|AV (ψ:=fun k=>E.C k 58 [.one (Ww 5 (hd.f0.f5.map (Wj .own))),Wr (U7 v1)]=some [(false,[Ww 5 (((Vf hd v1).1).map (Wj .own))]),Wo ((Vf hd v1).2)]) (Iw hd.f0.f5 (U7 v1) g)<|AC (p:=(((done++hd::rest).set (i:Int).toNat (G0 v1 hd)).map H2)[0+(i:Int).toNat]?=some (H2 (G0 v1 hd))) (bC (aT a))<|AC (p:=(((done++hd::rest).set (i:Int).toNat (G0 v1 hd)).map H2).set (0+(i:Int).toNat) ((H2 (G0 v1 hd)).set 5 (Ww 5 (((Vf hd v1).1).map (Wj .own))))=((done++hd::rest).set (i:Int).toNat (VJ v1 hd)).map H2) (dt (by rfl))<|AC (p:=0≤(i:Int)∧(i:Int)<((((done++hd::rest).set (i:Int).toNat (VJ v1 hd)).map H2).length:Int)) (di (aT a))<|AC (p:=(((done++hd::rest).set (i:Int).toNat (VJ v1 hd)).map H2)[0+(i:Int).toNat]?=some (H2 (VJ v1 hd))) (bC (aT a))<|AC (p:=(((done++hd::rest).set (i:Int).toNat (VJ v1 hd)).map H2).set (0+(i:Int).toNat) (au (H2 (VJ v1 hd)) 6 [tB (G1 hd v1)])=((done++hd::rest).set (i:Int).toNat (VG v1 hd)).map H2) (dt (by rfl))<|AC (p:=0≤(i:Int)∧(i:Int)<((((done++hd::rest).set (i:Int).toNat (VG v1 hd)).map H2).length:Int)) (di (aT a))<|AC (p:=(((done++hd::rest).set (i:Int).toNat (VG v1 hd)).map H2)[0+(i:Int).toNat]?=some (H2 (VG v1 hd))) (bC (aT a))<|AC (p:=(((done++hd::rest).set (i:Int).toNat (VG v1 hd)).map H2).set (0+(i:Int).toNat) (au (H2 (VG v1 hd)) 7 [tI (U1 hd v1)])=((done++hd::rest).set (i:Int).toNat (VE v1 hd)).map H2) (dt (by rfl))<|AC (p:=0≤(i:Int)∧(i:Int)<((((done++hd::rest).set (i:Int).toNat (VE v1 hd)).map H2).length:Int)) (di (aT a))<|AC (p:=(((done++hd::rest).set (i:Int).toNat (VE v1 hd)).map H2)[0+(i:Int).toNat]?=some (H2 (VE v1 hd))) (bC (aT a))<|AC (p:=(((done++hd::rest).set (i:Int).toNat (VE v1 hd)).map H2).set (0+(i:Int).toNat) (au (H2 (VE v1 hd)) 8 [tI (inc (U1 hd v1))])=((done++hd::rest).set (i:Int).toNat (VQ v1 hd)).map H2) (dt (by rfl))<|AN);rw[d,se hi]at r;cases y<;>exact V2 r h
noncomputable def gT (c:List GPlan)(d:Int):Option ((List GPlan)×Int):=
  if c.length≤9223372036854775807 then(fU c [] 0 d).bind fun y=>match y with
   | .x0 a b=>(some (a,b))else none
theorem I4 (x0:List GPlan)(c:Int):Ans (gT x0 c) (fun r=>Does E 28 [.one (Ww 9 (x0.map (Wd .own .own))),Wr c] [(false,[Ww 9 (r.1.map (Wd .own .own))]),Wo r.2]):=by
 unfold gT;apply V6;intro d;apply V5;intro y e;replace e:=GF x0 [] 0 c rfl d y e;cases y with
 |x0 a b =>have f:=e;exact VZ (DP Tryz.f28 [.lp (.exit 0) (pL a b)] (AL f<|AN))
inductive x8 where|ret (v4:Int)|x0 (v1:Int)
def cm (q0:Kd)(v0:List GPlan)(v1 v5:Int):US:=stL 106 [(0,.one (Wx 9 (v0.map (Wd q0 q0)))),(1,Wr v1),(5,Wr v5)]
def ct (q0:Kd)(a:Int):US:=stL 106 [(4,Wr a)]
def pI (q0:Kd)(a:Int):US:=stL 106 [(1,Wr a)]
abbrev dp:US→Exit→US→Prop:=Round E 31 (aq Tryz.f31 0)
def GB {q0:Kd}(v0:List GPlan)(v1 v5:Int):x8→Prop| .ret a=>Loops E 31 (aq Tryz.f31 0) (cm q0 v0 v1 v5) .ret (ct q0 a)| .x0 b=>Loops E 31 (aq Tryz.f31 0) (cm q0 v0 v1 v5) (.exit 0) (pI q0 b)
noncomputable def ii  : List GPlan→Nat→Int→Option x8|[],i,v1=>some (.x0 v1)|hd::rest,i,v1=>if bN v1=some (aa v1)then cond (!(hd.f0.f0.toList==(aa v1).toList)) (some (.ret (-1:Int))) (if bN (inc v1)=some (aa (inc v1))then cond (!(hd.f0.f1.toList==(aa (inc v1)).toList)) (some (.ret (-1:Int))) (cond (hd.f0.f2 != (inc (inc v1))) (some (.ret (-1:Int))) (cond (hd.f0.f3 != (inc (inc (inc v1)))) (some (.ret (-1:Int))) (cond (!(hd.f0.f4==((Int.tmod (inc (inc (inc (inc v1)))) (3:Int))==(0:Int)))) (some (.ret (-1:Int))) (if gS hd.f0.f5 (inc (inc (inc (inc (inc v1)))))=some (bi hd.f0.f5 (inc (inc (inc (inc (inc v1))))))then cond (decide ((bi hd.f0.f5 (inc (inc (inc (inc (inc v1))))))<(0:Int))) (some (.ret (-1:Int))) (cond (!(hd.f1==((Int.tmod (bi hd.f0.f5 (inc (inc (inc (inc (inc v1)))))) (3:Int))==(0:Int)))) (some (.ret (-1:Int))) (cond (hd.f2 != (inc (bi hd.f0.f5 (inc (inc (inc (inc (inc v1)))))))) (some (.ret (-1:Int))) (cond (hd.f3 != (inc (inc (bi hd.f0.f5 (inc (inc (inc (inc (inc v1))))))))) (some (.ret (-1:Int))) (ii rest (i+1) (inc (inc (inc (bi hd.f0.f5 (inc (inc (inc (inc (inc v1)))))))))))))else none))))else none)else none
abbrev VF (q0:Kd)(hd:GPlan):=(Wd q0 q0) hd
noncomputable abbrev VV (hd:GPlan)(v1:Int):=bi hd.f0.f5 (U7 v1)
abbrev Vd (q0:Kd):=ct q0 (-1:Int)
abbrev Vg (hd:GPlan)(q0:Kd):=Wx 5 (hd.f0.f5.map (Wj q0))
theorem GA {q0:Kd}(v0:List GPlan)(rest:List GPlan):∀(i:Nat)(v1:Int),(v0).drop i=rest→v0.length≤9223372036854775807→Ans (ii rest i v1) (GB (q0:=q0) v0 v1 (i:Int)):=by
 induction rest with
 |nil =>intro i v1 m q;have hb:=aP m;unfold ii;exact VZ (V3 (show dp (cm q0 v0 v1 (i:Int)) (.exit 0) (pI q0 v1)from RP [Wu (v0.length:Int),.b false] (ALn v0 (Wd q0 q0)<|AC hb<|AN)))
 |cons hd rest t =>
  intro i v1 m q;have hb:=aI m;have u:=aJ m q;have s:=az m;have a:=aK m;unfold ii;apply V6;intro c;apply V4<;>intro d
  ·exact VZ (V3 (show dp (cm q0 v0 v1 (i:Int)) .ret (Vd q0)from RP [Wu (v0.length:Int),.b true,.row (VF q0 hd),.ret [Wq (aa v1)],.b true] (ALn v0 (Wd q0 q0)<|AC hb<|AR (Wd q0 q0) a<|AD (aF v1 c)<|AC d<|AN)))
  ·apply V6;intro e;apply V4<;>intro f
   ·exact VZ (V3 (show dp (cm q0 v0 v1 (i:Int)) .ret (Vd q0)from RP [Wu (v0.length:Int),.b true,.row (VF q0 hd),.ret [Wq (aa v1)],.b false,.row (VF q0 hd),.ret [Wq (aa (inc v1))],.b true] (ALn v0 (Wd q0 q0)<|AC hb<|AR (Wd q0 q0) a<|AD (aF v1 c)<|AC d<|AR (Wd q0 q0) a<|AD (aF (inc v1) e)<|AC f<|AN)))
   ·apply V4<;>intro h
    ·exact VZ (V3 (show dp (cm q0 v0 v1 (i:Int)) .ret (Vd q0)from RP [Wu (v0.length:Int),.b true,.row (VF q0 hd),.ret [Wq (aa v1)],.b false,.row (VF q0 hd),.ret [Wq (aa (inc v1))],.b false,.row (VF q0 hd),.b true] (ALn v0 (Wd q0 q0)<|AC hb<|AR (Wd q0 q0) a<|AD (aF v1 c)<|AC d<|AR (Wd q0 q0) a<|AD (aF (inc v1) e)<|AC f<|AR (Wd q0 q0) a<|AC h<|AN)))
    ·apply V4<;>intro j
     ·exact VZ (V3 (show dp (cm q0 v0 v1 (i:Int)) .ret (Vd q0)from RP [Wu (v0.length:Int),.b true,.row (VF q0 hd),.ret [Wq (aa v1)],.b false,.row (VF q0 hd),.ret [Wq (aa (inc v1))],.b false,.row (VF q0 hd),.b false,.row (VF q0 hd),.b true] (ALn v0 (Wd q0 q0)<|AC hb<|AR (Wd q0 q0) a<|AD (aF v1 c)<|AC d<|AR (Wd q0 q0) a<|AD (aF (inc v1) e)<|AC f<|AR (Wd q0 q0) a<|AC h<|AR (Wd q0 q0) a<|AC j<|AN)))
     ·apply V4<;>intro n
      ·exact VZ (V3 (show dp (cm q0 v0 v1 (i:Int)) .ret (Vd q0)from RP [Wu (v0.length:Int),.b true,.row (VF q0 hd),.ret [Wq (aa v1)],.b false,.row (VF q0 hd),.ret [Wq (aa (inc v1))],.b false,.row (VF q0 hd),.b false,.row (VF q0 hd),.b false,.row (VF q0 hd),.no,.no,.b true] (ALn v0 (Wd q0 q0)<|AC hb<|AR (Wd q0 q0) a<|AD (aF v1 c)<|AC d<|AR (Wd q0 q0) a<|AD (aF (inc v1) e)<|AC f<|AR (Wd q0 q0) a<|AC h<|AR (Wd q0 q0) a<|AC j<|AR (Wd q0 q0) a<|AC n<|AN)))
      ·apply V6;intro o;apply V4<;>intro b
       ·exact VZ (V3 (show dp (cm q0 v0 v1 (i:Int)) .ret (Vd q0)from RP [Wu (v0.length:Int),.b true,.row (VF q0 hd),.ret [Wq (aa v1)],.b false,.row (VF q0 hd),.ret [Wq (aa (inc v1))],.b false,.row (VF q0 hd),.b false,.row (VF q0 hd),.b false,.row (VF q0 hd),.no,.no,.b false,.row (VF q0 hd),.ret [Wo (VV hd v1)],.b true] (ALn v0 (Wd q0 q0)<|AC hb<|AR (Wd q0 q0) a<|AD (aF v1 c)<|AC d<|AR (Wd q0 q0) a<|AD (aF (inc v1) e)<|AC f<|AR (Wd q0 q0) a<|AC h<|AR (Wd q0 q0) a<|AC j<|AR (Wd q0 q0) a<|AC n<|AR (Wd q0 q0) a<|AV (ψ:=fun k=>E.C k 60 [.one (Vg hd q0),Wr (U7 v1)]=some [Wo (VV hd v1)]) (md hd.f0.f5 (U7 v1) o)<|AC b<|AN)))
       ·apply V4<;>intro g
        ·exact VZ (V3 (show dp (cm q0 v0 v1 (i:Int)) .ret (Vd q0)from RP [Wu (v0.length:Int),.b true,.row (VF q0 hd),.ret [Wq (aa v1)],.b false,.row (VF q0 hd),.ret [Wq (aa (inc v1))],.b false,.row (VF q0 hd),.b false,.row (VF q0 hd),.b false,.row (VF q0 hd),.no,.no,.b false,.row (VF q0 hd),.ret [Wo (VV hd v1)],.b false,.row (VF q0 hd),.no,.no,.b true] (ALn v0 (Wd q0 q0)<|AC hb<|AR (Wd q0 q0) a<|AD (aF v1 c)<|AC d<|AR (Wd q0 q0) a<|AD (aF (inc v1) e)<|AC f<|AR (Wd q0 q0) a<|AC h<|AR (Wd q0 q0) a<|AC j<|AR (Wd q0 q0) a<|AC n<|AR (Wd q0 q0) a<|AV (ψ:=fun k=>E.C k 60 [.one (Vg hd q0),Wr (U7 v1)]=some [Wo (VV hd v1)]) (md hd.f0.f5 (U7 v1) o)<|AC b<|AR (Wd q0 q0) a<|AC g<|AN)))
        ·apply V4<;>intro l
         ·exact VZ (V3 (show dp (cm q0 v0 v1 (i:Int)) .ret (Vd q0)from RP [Wu (v0.length:Int),.b true,.row (VF q0 hd),.ret [Wq (aa v1)],.b false,.row (VF q0 hd),.ret [Wq (aa (inc v1))],.b false,.row (VF q0 hd),.b false,.row (VF q0 hd),.b false,.row (VF q0 hd),.no,.no,.b false,.row (VF q0 hd),.ret [Wo (VV hd v1)],.b false,.row (VF q0 hd),.no,.no,.b false,.row (VF q0 hd),.b true] (ALn v0 (Wd q0 q0)<|AC hb<|AR (Wd q0 q0) a<|AD (aF v1 c)<|AC d<|AR (Wd q0 q0) a<|AD (aF (inc v1) e)<|AC f<|AR (Wd q0 q0) a<|AC h<|AR (Wd q0 q0) a<|AC j<|AR (Wd q0 q0) a<|AC n<|AR (Wd q0 q0) a<|AV (ψ:=fun k=>E.C k 60 [.one (Vg hd q0),Wr (U7 v1)]=some [Wo (VV hd v1)]) (md hd.f0.f5 (U7 v1) o)<|AC b<|AR (Wd q0 q0) a<|AC g<|AR (Wd q0 q0) a<|AC l<|AN)))
         ·apply V4<;>intro p
          ·exact VZ (V3 (show dp (cm q0 v0 v1 (i:Int)) .ret (Vd q0)from RP [Wu (v0.length:Int),.b true,.row (VF q0 hd),.ret [Wq (aa v1)],.b false,.row (VF q0 hd),.ret [Wq (aa (inc v1))],.b false,.row (VF q0 hd),.b false,.row (VF q0 hd),.b false,.row (VF q0 hd),.no,.no,.b false,.row (VF q0 hd),.ret [Wo (VV hd v1)],.b false,.row (VF q0 hd),.no,.no,.b false,.row (VF q0 hd),.b false,.row (VF q0 hd),.b true] (ALn v0 (Wd q0 q0)<|AC hb<|AR (Wd q0 q0) a<|AD (aF v1 c)<|AC d<|AR (Wd q0 q0) a<|AD (aF (inc v1) e)<|AC f<|AR (Wd q0 q0) a<|AC h<|AR (Wd q0 q0) a<|AC j<|AR (Wd q0 q0) a<|AC n<|AR (Wd q0 q0) a<|AV (ψ:=fun k=>E.C k 60 [.one (Vg hd q0),Wr (U7 v1)]=some [Wo (VV hd v1)]) (md hd.f0.f5 (U7 v1) o)<|AC b<|AR (Wd q0 q0) a<|AC g<|AR (Wd q0 q0) a<|AC l<|AR (Wd q0 q0) a<|AC p<|AN)))
          ·exact(t (i+1) (inc (inc (inc (VV hd v1)))) s q).mono fun y v=>by have r:dp (cm q0 v0 v1 (i:Int)) .normal (cm q0 v0 (inc (inc (inc (VV hd v1)))) (inc (i:Int))):=RP [Wu (v0.length:Int),.b true,.row (VF q0 hd),.ret [Wq (aa v1)],.b false,.row (VF q0 hd),.ret [Wq (aa (inc v1))],.b false,.row (VF q0 hd),.b false,.row (VF q0 hd),.b false,.row (VF q0 hd),.no,.no,.b false,.row (VF q0 hd),.ret [Wo (VV hd v1)],.b false,.row (VF q0 hd),.no,.no,.b false,.row (VF q0 hd),.b false,.row (VF q0 hd),.b false] (ALn v0 (Wd q0 q0)<|AC hb<|AR (Wd q0 q0) a<|AD (aF v1 c)<|AC d<|AR (Wd q0 q0) a<|AD (aF (inc v1) e)<|AC f<|AR (Wd q0 q0) a<|AC h<|AR (Wd q0 q0) a<|AC j<|AR (Wd q0 q0) a<|AC n<|AR (Wd q0 q0) a<|AV (ψ:=fun k=>E.C k 60 [.one (Vg hd q0),Wr (U7 v1)]=some [Wo (VV hd v1)]) (md hd.f0.f5 (U7 v1) o)<|AC b<|AR (Wd q0 q0) a<|AC g<|AR (Wd q0 q0) a<|AC l<|AR (Wd q0 q0) a<|AC p<|AN);rw[u]at r;cases y<;>exact V2 r v
noncomputable def gR (c:List GPlan)(d:Int):Option (Int):=
  if c.length≤9223372036854775807 then(ii c 0 d).bind fun y=>match y with
   | .ret a=>(some (a))
   | .x0 b=>(some (b))else none
theorem IV {q0:Kd}(x0:List GPlan)(d:Int):Ans (gR x0 d) (fun r=>Does E 31 [.one (Wx 9 (x0.map (Wd q0 q0))),Wr d] [Wo r]):=by
 unfold gR;apply V6;intro e;apply V5;intro y c;replace c:=GA (q0:=q0) x0 x0 0 d rfl e y c;cases y with
 |ret a =>have f:=c;exact VZ (DP Tryz.f31 [.lp .ret (ct q0 a)] (AL f<|AN))
 |x0 b =>have f:=c;exact VZ (DP Tryz.f31 [.lp (.exit 0) (pI q0 b)] (AL f<|AN))
noncomputable def aD (x:List GPlan)(k:Int):(List GPlan)×Int:=(gT x k).getD ([],0)
noncomputable def bg (x:List GPlan)(k:Int):Int:=(gR x k).getD (-1)
theorem Iv (a:List GPlan)(b:Int)(h:gT a b=some (aD a b)):Does E 28 [.one (Ww 9 (a.map (Wd .own .own))),Wr b] [(false,[Ww 9 (((aD a b).1).map (Wd .own .own))]),Wo ((aD a b).2)]:=by exact I4 a b _ h
theorem sY {q0:Kd}(a:List GPlan)(b:Int)(h:gR a b=some (bg a b)):Does E 31 [.one (Wx 9 (a.map (Wd q0 q0))),Wr b] [Wo (bg a b)]:=by exact IV a b _ h
theorem yk:∀(rest done:List GPlan)(i:Nat)(k:Int),(∀y∈rest,ab.sm y)→0≤k→k+1102504200008*(rest.length:Int)≤4611686018427387904 →
  ∃new m,fU rest done i k=some (.x0 (done++new) m)∧k≤m∧m≤k+1102504200008*(rest.length:Int)∧new.length=rest.length∧(∀y∈new,ab.sm y)∧∀j,ii new j k=some (.x0 m)
 |[],done,i,k,_,q,_=>⟨[],k,by unfold fU;rw[WX],by omega,by simp,rfl,fun y hy=>(by cases hy),fun j=>rfl⟩
 |x::rest,done,i,k,h,q,r=>by
  have s:=h x (by simp);rw[W4]at r ⊢;have b:=jd k (by omega);have c:inc k=k+1:=cr _ (by omega) (by omega);have t2:=jd (k+1) (by omega);have d:inc (k+1)=(k+1)+1:=cr _ (by omega) (by omega);have e:inc ((k+1)+1)=((k+1)+1)+1:=cr _ (by omega) (by omega);have f:inc (((k+1)+1)+1)=(((k+1)+1)+1)+1:=cr _ (by omega) (by omega);have g:inc ((((k+1)+1)+1)+1)=((((k+1)+1)+1)+1)+1:=cr _ (by omega) (by omega);have a:=GU x.f0.f5 (((((k+1)+1)+1)+1)+1) s.2.2 (by omega) (by omega);have l:decide ((ai x.f0.f5 (((((k+1)+1)+1)+1)+1)).2<(0:Int))=false:=WH (by omega);have n:inc ((ai x.f0.f5 (((((k+1)+1)+1)+1)+1)).2)=(ai x.f0.f5 (((((k+1)+1)+1)+1)+1)).2+1:=cr _ (by omega) (by omega);have o:inc ((ai x.f0.f5 (((((k+1)+1)+1)+1)+1)).2+1)=((ai x.f0.f5 (((((k+1)+1)+1)+1)+1)).2+1)+1:=cr _ (by omega) (by omega);have p:inc (((ai x.f0.f5 (((((k+1)+1)+1)+1)+1)).2+1)+1)=(((ai x.f0.f5 (((((k+1)+1)+1)+1)+1)).2+1)+1)+1:=cr _ (by omega) (by omega);obtain⟨new,m,g1,v,g3,g4,t,u⟩:=yk rest (done++[(GPlan.mk (GDag.mk (aa k) (aa (k+1)) ((k+1)+1) (((k+1)+1)+1) ((Int.tmod ((((k+1)+1)+1)+1) (3:Int))==(0:Int)) (ai x.f0.f5 (((((k+1)+1)+1)+1)+1)).1) ((Int.tmod ((ai x.f0.f5 (((((k+1)+1)+1)+1)+1)).2) (3:Int))==(0:Int)) ((ai x.f0.f5 (((((k+1)+1)+1)+1)+1)).2+1) (((ai x.f0.f5 (((((k+1)+1)+1)+1)+1)).2+1)+1))]) (i+1) ((((ai x.f0.f5 (((((k+1)+1)+1)+1)+1)).2+1)+1)+1) (fun y hy=>h y (by simp[hy])) (by omega) (by omega);refine⟨(GPlan.mk (GDag.mk (aa k) (aa (k+1)) ((k+1)+1) (((k+1)+1)+1) ((Int.tmod ((((k+1)+1)+1)+1) (3:Int))==(0:Int)) (ai x.f0.f5 (((((k+1)+1)+1)+1)+1)).1) ((Int.tmod ((ai x.f0.f5 (((((k+1)+1)+1)+1)+1)).2) (3:Int))==(0:Int)) ((ai x.f0.f5 (((((k+1)+1)+1)+1)+1)).2+1) (((ai x.f0.f5 (((((k+1)+1)+1)+1)+1)).2+1)+1))::new,m,?_,by omega,by omega,by simp[g4],?_,fun j=>?_⟩
  ·unfold fU;simp only[b.1,c,t2.1,d,e,f,g,a.1,a.2.1,a.2.2.1,l,n,o,p,W8,g1,XU,XF]
  ·intro y hy;rcases WZ.1 hy with rfl|hy
   ·exact⟨b.2,t2.2,a.2.2.2.2.2⟩
   ·exact t y hy
  ·unfold ii;simp only[b.1,c,t2.1,d,e,f,g,a.1,a.2.1,a.2.2.1,l,n,o,p,W8,Xl,Yd,Xq,WO,WK,u]
theorem GT (l:List GPlan)(k:Int)(h:ab.sm l)(b:0≤k)(i:k+1157629410008400000≤4611686018427387904):gT l k=some (aD l k)∧gR (aD l k).1 k=some (bg (aD l k).1 k)∧bg (aD l k).1 k=(aD l k).2∧k≤(aD l k).2∧(aD l k).2≤k+1157629410008400000∧ab.sm (aD l k).1:=by
 have j:=h.1;obtain⟨new,m,g1,c,g3,g4,d,f⟩:=yk l [] 0 k h.2 b (by omega);have e:gT l k=some (new,m):=by unfold gT;rw[Wz (cK h),g1];rfl
 have p:aD l k=(new,m):=by unfold aD;rw[e];rfl
 have a:gR new k=some m:=by unfold gR;rw[Wz (by omega),f];rfl
 have g:bg new k=m:=by unfold bg;rw[a];rfl
 rw[p,g];exact⟨e,a,rfl,c,by omega,⟨by show new.length≤1050000;omega,d⟩⟩
inductive wd where|x0 (v0:List GState) (v1:Int)
def mM (v0:List GState)(v1 v5:Int):US:=stL 41 [(0,.one (Ww 4 (v0.map Wi))),(1,Wr v1),(5,Wr v5)]
def oD (a:List GState)(b:Int):US:=stL 41 [(0,.one (Ww 4 (a.map Wi))),(1,Wr b)]
abbrev wc:US→Exit→US→Prop:=Round E 59 (aq Tryz.f59 0)
def Fn (v0:List GState)(v1 v5:Int):wd→Prop| .x0 a b=>Loops E 59 (aq Tryz.f59 0) (mM v0 v1 v5) (.exit 0) (oD a b)
noncomputable def fc  : List GState→List GState→Nat→Int→Option wd|[],done,i,v1=>some (.x0 done v1)|hd::rest,done,i,v1=>fc rest (done++[(GState.mk v1 (inc v1) (inc (inc v1)) (inc (inc (inc v1))))]) (i+1) (inc (inc (inc (inc v1))))
abbrev VK (v1:Int)(hd:GState):=GState.mk v1 (inc v1) (U6 v1) hd.f3
abbrev VM (v1:Int)(hd:GState):=GState.mk v1 (inc v1) hd.f2 hd.f3
abbrev VP (v1:Int)(hd:GState):=GState.mk v1 hd.f1 hd.f2 hd.f3
abbrev VW (v1:Int):=GState.mk v1 (inc v1) (U6 v1) (GZ v1)
theorem Fm  (rest:List GState):∀(done:List GState)(i:Nat)(v1:Int),i=done.length→(done++rest).length≤9223372036854775807→Ans (fc rest done i v1) (Fn (done++rest) v1 (i:Int)):=by
 induction rest with
 |nil =>intro done i v1 hi b;rw[WX];have hb:=yi hi;unfold fc;exact VZ (V3 (show wc (mM done v1 (i:Int)) (.exit 0) (oD done v1)from RP [Wu (done.length:Int),.b false] (ALn done Wi<|AC hb<|AN)))
 |cons hd rest c =>intro done i v1 hi b;have hb:=uz (hd:=hd) (rest:=rest) hi;have d:=uA (hd:=hd) (rest:=rest) hi b;have a:=yj (hd:=hd) (rest:=rest) hi;unfold fc;exact(c (done++[(VW v1)]) (i+1) (inc (GZ v1)) (by simp[hi]) (by simpa using b)).mono fun y e=>by have r:wc (mM (done++hd::rest) v1 (i:Int)) .normal (mM ((done++hd::rest).set (i:Int).toNat (VW v1)) (inc (GZ v1)) (inc (i:Int))):=RP [Wu ((done++hd::rest).length:Int),.b true,.row (Wi hd),.rows (((done++hd::rest).set (i:Int).toNat (VP v1 hd)).map Wi),.row (Wi (VP v1 hd)),.rows (((done++hd::rest).set (i:Int).toNat (VM v1 hd)).map Wi),.row (Wi (VM v1 hd)),.rows (((done++hd::rest).set (i:Int).toNat (VK v1 hd)).map Wi),.row (Wi (VK v1 hd)),.rows (((done++hd::rest).set (i:Int).toNat (VW v1)).map Wi)] (ALn (done++hd::rest) Wi<|AC hb<|AG Wi a<|AC (p:=((done++hd::rest).map Wi).set (0+(i:Int).toNat) (au (Wi hd) 0 [tI v1])=((done++hd::rest).set (i:Int).toNat (VP v1 hd)).map Wi) (cu (by rfl))<|AC (p:=0≤(i:Int)∧(i:Int)<((((done++hd::rest).set (i:Int).toNat (VP v1 hd)).map Wi).length:Int)) (di (aT a))<|AC (p:=(((done++hd::rest).set (i:Int).toNat (VP v1 hd)).map Wi)[0+(i:Int).toNat]?=some (Wi (VP v1 hd))) (bC (aT a))<|AC (p:=(((done++hd::rest).set (i:Int).toNat (VP v1 hd)).map Wi).set (0+(i:Int).toNat) (au (Wi (VP v1 hd)) 1 [tI (inc v1)])=((done++hd::rest).set (i:Int).toNat (VM v1 hd)).map Wi) (dt (by rfl))<|AC (p:=0≤(i:Int)∧(i:Int)<((((done++hd::rest).set (i:Int).toNat (VM v1 hd)).map Wi).length:Int)) (di (aT a))<|AC (p:=(((done++hd::rest).set (i:Int).toNat (VM v1 hd)).map Wi)[0+(i:Int).toNat]?=some (Wi (VM v1 hd))) (bC (aT a))<|AC (p:=(((done++hd::rest).set (i:Int).toNat (VM v1 hd)).map Wi).set (0+(i:Int).toNat) (au (Wi (VM v1 hd)) 2 [tI (U6 v1)])=((done++hd::rest).set (i:Int).toNat (VK v1 hd)).map Wi) (dt (by rfl))<|AC (p:=0≤(i:Int)∧(i:Int)<((((done++hd::rest).set (i:Int).toNat (VK v1 hd)).map Wi).length:Int)) (di (aT a))<|AC (p:=(((done++hd::rest).set (i:Int).toNat (VK v1 hd)).map Wi)[0+(i:Int).toNat]?=some (Wi (VK v1 hd))) (bC (aT a))<|AC (p:=(((done++hd::rest).set (i:Int).toNat (VK v1 hd)).map Wi).set (0+(i:Int).toNat) (au (Wi (VK v1 hd)) 3 [tI (GZ v1)])=((done++hd::rest).set (i:Int).toNat (VW v1)).map Wi) (dt (by rfl))<|AN);rw[d,se hi]at r;cases y<;>exact V2 r e
noncomputable def fV (c:List GState)(d:Int):Option ((List GState)×Int):=
  if c.length≤9223372036854775807 then(fc c [] 0 d).bind fun y=>match y with
   | .x0 a b=>(some (a,b))else none
theorem GH (x0:List GState)(c:Int):Ans (fV x0 c) (fun r=>Does E 59 [.one (Ww 4 (x0.map Wi)),Wr c] [(false,[Ww 4 (r.1.map Wi)]),Wo r.2]):=by
 unfold fV;apply V6;intro d;apply V5;intro y e;replace e:=Fm x0 [] 0 c rfl d y e;cases y with
 |x0 a b =>have f:=e;exact VZ (DP Tryz.f59 [.lp (.exit 0) (oD a b)] (AL f<|AN))
inductive wb where|ret (v4:Int)|x0 (v1:Int)
def dZ (v0:List GState)(v1 v5:Int):US:=stL 49 [(0,.one (Wx 4 (v0.map Wi))),(1,Wr v1),(5,Wr v5)]
def fS (a:Int):US:=stL 49 [(4,Wr a)]
def oC (a:Int):US:=stL 49 [(1,Wr a)]
abbrev iX:US→Exit→US→Prop:=Round E 61 (aq Tryz.f61 0)
def Fk (v0:List GState)(v1 v5:Int):wb→Prop| .ret a=>Loops E 61 (aq Tryz.f61 0) (dZ v0 v1 v5) .ret (fS a)| .x0 b=>Loops E 61 (aq Tryz.f61 0) (dZ v0 v1 v5) (.exit 0) (oC b)
noncomputable def gA  : List GState→Nat→Int→Option wb|[],i,v1=>some (.x0 v1)|hd::rest,i,v1=>cond (hd.f0 != v1) (some (.ret (-1:Int))) (cond (hd.f1 != (inc v1)) (some (.ret (-1:Int))) (cond (hd.f2 != (inc (inc v1))) (some (.ret (-1:Int))) (cond (hd.f3 != (inc (inc (inc v1)))) (some (.ret (-1:Int))) (gA rest (i+1) (inc (inc (inc (inc v1))))))))
theorem Fj (v0:List GState)(rest:List GState):∀(i:Nat)(v1:Int),(v0).drop i=rest→v0.length≤9223372036854775807→Ans (gA rest i v1) (Fk v0 v1 (i:Int)):=by
 induction rest with
 |nil =>intro i v1 b e;have hb:=aP b;unfold gA;exact VZ (V3 (show iX (dZ v0 v1 (i:Int)) (.exit 0) (oC v1)from RP [Wu (v0.length:Int),.b false] (ALn v0 Wi<|AC hb<|AN)))
 |cons hd rest j =>
  intro i v1 b e;have hb:=aI b;have k:=aJ b e;have f:=az b;have a:=aK b;unfold gA;apply V4<;>intro c
  ·exact VZ (V3 (show iX (dZ v0 v1 (i:Int)) .ret (fS (-1:Int))from RP [Wu (v0.length:Int),.b true,.row (Wi hd),.b true] (ALn v0 Wi<|AC hb<|AR Wi a<|AC c<|AN)))
  ·apply V4<;>intro d
   ·exact VZ (V3 (show iX (dZ v0 v1 (i:Int)) .ret (fS (-1:Int))from RP [Wu (v0.length:Int),.b true,.row (Wi hd),.b false,.row (Wi hd),.b true] (ALn v0 Wi<|AC hb<|AR Wi a<|AC c<|AR Wi a<|AC d<|AN)))
   ·apply V4<;>intro g
    ·exact VZ (V3 (show iX (dZ v0 v1 (i:Int)) .ret (fS (-1:Int))from RP [Wu (v0.length:Int),.b true,.row (Wi hd),.b false,.row (Wi hd),.b false,.row (Wi hd),.b true] (ALn v0 Wi<|AC hb<|AR Wi a<|AC c<|AR Wi a<|AC d<|AR Wi a<|AC g<|AN)))
    ·apply V4<;>intro h
     ·exact VZ (V3 (show iX (dZ v0 v1 (i:Int)) .ret (fS (-1:Int))from RP [Wu (v0.length:Int),.b true,.row (Wi hd),.b false,.row (Wi hd),.b false,.row (Wi hd),.b false,.row (Wi hd),.b true] (ALn v0 Wi<|AC hb<|AR Wi a<|AC c<|AR Wi a<|AC d<|AR Wi a<|AC g<|AR Wi a<|AC h<|AN)))
     ·exact(j (i+1) (inc (GZ v1)) f e).mono fun y l=>by have r:iX (dZ v0 v1 (i:Int)) .normal (dZ v0 (inc (GZ v1)) (inc (i:Int))):=RP [Wu (v0.length:Int),.b true,.row (Wi hd),.b false,.row (Wi hd),.b false,.row (Wi hd),.b false,.row (Wi hd),.b false] (ALn v0 Wi<|AC hb<|AR Wi a<|AC c<|AR Wi a<|AC d<|AR Wi a<|AC g<|AR Wi a<|AC h<|AN);rw[k]at r;cases y<;>exact V2 r l
noncomputable def fT (c:List GState)(d:Int):Option (Int):=
  if c.length≤9223372036854775807 then(gA c 0 d).bind fun y=>match y with
   | .ret a=>(some (a))
   | .x0 b=>(some (b))else none
theorem GC (x0:List GState)(d:Int):Ans (fT x0 d) (fun r=>Does E 61 [.one (Wx 4 (x0.map Wi)),Wr d] [Wo r]):=by
 unfold fT;apply V6;intro e;apply V5;intro y c;replace c:=Fj x0 x0 0 d rfl e y c;cases y with
 |ret a =>have f:=c;exact VZ (DP Tryz.f61 [.lp .ret (fS a)] (AL f<|AN))
 |x0 b =>have f:=c;exact VZ (DP Tryz.f61 [.lp (.exit 0) (oC b)] (AL f<|AN))
noncomputable def aS (x:List GState)(k:Int):(List GState)×Int:=(fV x k).getD ([],0)
noncomputable def cD (x:List GState)(k:Int):Int:=(fT x k).getD (-1)
theorem F6 (a:List GState)(b:Int)(h:fV a b=some (aS a b)):Does E 59 [.one (Ww 4 (a.map Wi)),Wr b] [(false,[Ww 4 (((aS a b).1).map Wi)]),Wo ((aS a b).2)]:=by exact GH a b _ h
theorem xB (a:List GState)(b:Int)(h:fT a b=some (cD a b)):Does E 61 [.one (Wx 4 (a.map Wi)),Wr b] [Wo (cD a b)]:=by exact GC a b _ h
theorem wj:∀(rest done:List GState)(i:Nat)(k:Int),(∀y∈rest,ab.sm y)→0≤k→k+4*(rest.length:Int)≤4611686018427387904 →
  ∃new m,fc rest done i k=some (.x0 (done++new) m)∧k≤m∧m≤k+4*(rest.length:Int)∧new.length=rest.length∧(∀y∈new,ab.sm y)∧∀j,gA new j k=some (.x0 m)
 |[],done,i,k,_,e,_=>⟨[],k,by unfold fc;rw[WX],by omega,by simp,rfl,fun y hy=>(by cases hy),fun j=>rfl⟩
 |x::rest,done,i,k,h,e,f=>by
  have n:=h x (by simp);rw[W4]at f ⊢;have a:inc k=k+1:=cr _ (by omega) (by omega);have b:inc (k+1)=(k+1)+1:=cr _ (by omega) (by omega);have c:inc ((k+1)+1)=((k+1)+1)+1:=cr _ (by omega) (by omega);have d:inc (((k+1)+1)+1)=(((k+1)+1)+1)+1:=cr _ (by omega) (by omega);obtain⟨new,m,g1,o,g3,g4,g,l⟩:=wj rest (done++[(GState.mk k (k+1) ((k+1)+1) (((k+1)+1)+1))]) (i+1) ((((k+1)+1)+1)+1) (fun y hy=>h y (by simp[hy])) (by omega) (by omega);refine⟨(GState.mk k (k+1) ((k+1)+1) (((k+1)+1)+1))::new,m,?_,by omega,by omega,by simp[g4],?_,fun j=>?_⟩
  ·unfold fc;simp only[a,b,c,d,W8,g1,XU,XF]
  ·intro y hy;rcases WZ.1 hy with rfl|hy
   ·exact trivial
   ·exact g y hy
  ·unfold gA;simp only[a,b,c,d,W8,Xl,Yd,Xq,WO,WK,l]
theorem FC (l:List GState)(k:Int)(h:ab.sm l)(b:0≤k)(i:k+4200000≤4611686018427387904):fV l k=some (aS l k)∧fT (aS l k).1 k=some (cD (aS l k).1 k)∧cD (aS l k).1 k=(aS l k).2∧k≤(aS l k).2∧(aS l k).2≤k+4200000∧ab.sm (aS l k).1:=by
 have j:=h.1;obtain⟨new,m,g1,c,g3,g4,d,f⟩:=wj l [] 0 k h.2 b (by omega);have e:fV l k=some (new,m):=by unfold fV;rw[Wz (cK h),g1];rfl
 have p:aS l k=(new,m):=by unfold aS;rw[e];rfl
 have a:fT new k=some m:=by unfold fT;rw[Wz (by omega),f];rfl
 have g:cD new k=m:=by unfold cD;rw[a];rfl
 rw[p,g];exact⟨e,a,rfl,c,by omega,⟨by show new.length≤1050000;omega,d⟩⟩
inductive Ac where|x0 (v0:List GRun) (v1:Int)
def pa (v0:List GRun)(v1 v5:Int):US:=stL 51 [(0,.one (Ww 5 (v0.map (We .own)))),(1,Wr v1),(5,Wr v5)]
def qP (a:List GRun)(b:Int):US:=stL 51 [(0,.one (Ww 5 (a.map (We .own)))),(1,Wr b)]
abbrev Ab:US→Exit→US→Prop:=Round E 29 (aq Tryz.f29 0)
def I6 (v0:List GRun)(v1 v5:Int):Ac→Prop| .x0 a b=>Loops E 29 (aq Tryz.f29 0) (pa v0 v1 v5) (.exit 0) (qP a b)
noncomputable def gU  : List GRun→List GRun→Nat→Int→Option Ac|[],done,i,v1=>some (.x0 done v1)|hd::rest,done,i,v1=>if bN v1=some (aa v1)then if fV hd.f3 (inc (inc (inc (inc v1))))=some (aS hd.f3 (inc (inc (inc (inc v1)))))then gU rest (done++[(GRun.mk (aa v1) (GSpan.mk (inc v1) (inc (inc v1))) (inc (inc (inc v1))) ((aS hd.f3 (inc (inc (inc (inc v1))))).1))]) (i+1) ((aS hd.f3 (inc (inc (inc (inc v1))))).2)else none else none
noncomputable abbrev IM (v1:Int)(hd:GRun):=GRun.mk (aa v1) (GSpan.mk (inc v1) (U6 v1)) (GZ v1) hd.f3
noncomputable abbrev U9 (v1:Int)(hd:GRun):=GRun.mk (aa v1) (GSpan.mk (inc v1) hd.f1.f1) hd.f2 hd.f3
noncomputable abbrev VA (v1:Int)(hd:GRun):=GRun.mk (aa v1) (GSpan.mk (inc v1) (U6 v1)) hd.f2 hd.f3
noncomputable abbrev Vb (hd:GRun)(v1:Int):=aS hd.f3 (inc (GZ v1))
noncomputable abbrev VI (v1:Int)(hd:GRun):=GRun.mk (aa v1) (GSpan.mk (inc v1) (U6 v1)) (GZ v1) ((Vb hd v1).1)
noncomputable abbrev VL (v1:Int)(hd:GRun):=GRun.mk (aa v1) hd.f1 hd.f2 hd.f3
noncomputable abbrev Vj (v1:Int)(hd:GRun):=(We .own) (IM v1 hd)
theorem I5  (rest:List GRun):∀(done:List GRun)(i:Nat)(v1:Int),i=done.length→(done++rest).length≤9223372036854775807→Ans (gU rest done i v1) (I6 (done++rest) v1 (i:Int)):=by
 induction rest with
 |nil =>intro done i v1 hi b;rw[WX];have hb:=yi hi;unfold gU;exact VZ (V3 (show Ab (pa done v1 (i:Int)) (.exit 0) (qP done v1)from RP [Wu (done.length:Int),.b false] (ALn done (We .own)<|AC hb<|AN)))
 |cons hd rest c =>intro done i v1 hi b;have hb:=uz (hd:=hd) (rest:=rest) hi;have d:=uA (hd:=hd) (rest:=rest) hi b;have a:=yj (hd:=hd) (rest:=rest) hi;unfold gU;apply V6;intro e;apply V6;intro f;exact(c (done++[(VI v1 hd)]) (i+1) ((Vb hd v1).2) (by simp[hi]) (by simpa using b)).mono fun y g=>by have r:Ab (pa (done++hd::rest) v1 (i:Int)) .normal (pa ((done++hd::rest).set (i:Int).toNat (VI v1 hd)) ((Vb hd v1).2) (inc (i:Int))):=RP [Wu ((done++hd::rest).length:Int),.b true,.ret [Wq (aa v1)],.row ((We .own) hd),.rows (((done++hd::rest).set (i:Int).toNat (VL v1 hd)).map (We .own)),.row ((We .own) (VL v1 hd)),.rows (((done++hd::rest).set (i:Int).toNat (U9 v1 hd)).map (We .own)),.row ((We .own) (U9 v1 hd)),.rows (((done++hd::rest).set (i:Int).toNat (VA v1 hd)).map (We .own)),.row ((We .own) (VA v1 hd)),.rows (((done++hd::rest).set (i:Int).toNat (IM v1 hd)).map (We .own)),.row (Vj v1 hd),.row (Vj v1 hd),.ret [(false,[Ww 4 (((Vb hd v1).1).map Wi)]),Wo ((Vb hd v1).2)],.row (Vj v1 hd),.rows (((done++hd::rest).set (i:Int).toNat (VI v1 hd)).map (We .own))] (ALn (done++hd::rest) (We .own)<|AC hb<|AD (aF v1 e)<|AG (We .own) a<|AC (p:=((done++hd::rest).map (We .own)).set (0+(i:Int).toNat) (au ((We .own) hd) 0 [tS (aa v1)])=((done++hd::rest).set (i:Int).toNat (VL v1 hd)).map (We .own)) (cu (by rfl))<|AC (p:=0≤(i:Int)∧(i:Int)<((((done++hd::rest).set (i:Int).toNat (VL v1 hd)).map (We .own)).length:Int)) (di (aT a))<|AC (p:=(((done++hd::rest).set (i:Int).toNat (VL v1 hd)).map (We .own))[0+(i:Int).toNat]?=some ((We .own) (VL v1 hd))) (bC (aT a))<|AC (p:=(((done++hd::rest).set (i:Int).toNat (VL v1 hd)).map (We .own)).set (0+(i:Int).toNat) (au ((We .own) (VL v1 hd)) 1 [tI (inc v1)])=((done++hd::rest).set (i:Int).toNat (U9 v1 hd)).map (We .own)) (dt (by rfl))<|AC (p:=0≤(i:Int)∧(i:Int)<((((done++hd::rest).set (i:Int).toNat (U9 v1 hd)).map (We .own)).length:Int)) (di (aT a))<|AC (p:=(((done++hd::rest).set (i:Int).toNat (U9 v1 hd)).map (We .own))[0+(i:Int).toNat]?=some ((We .own) (U9 v1 hd))) (bC (aT a))<|AC (p:=(((done++hd::rest).set (i:Int).toNat (U9 v1 hd)).map (We .own)).set (0+(i:Int).toNat) (au ((We .own) (U9 v1 hd)) 2 [tI (U6 v1)])=((done++hd::rest).set (i:Int).toNat (VA v1 hd)).map (We .own)) (dt (by rfl))<|AC (p:=0≤(i:Int)∧(i:Int)<((((done++hd::rest).set (i:Int).toNat (VA v1 hd)).map (We .own)).length:Int)) (di (aT a))<|AC (p:=(((done++hd::rest).set (i:Int).toNat (VA v1 hd)).map (We .own))[0+(i:Int).toNat]?=some ((We .own) (VA v1 hd))) (bC (aT a))<|AC (p:=(((done++hd::rest).set (i:Int).toNat (VA v1 hd)).map (We .own)).set (0+(i:Int).toNat) (au ((We .own) (VA v1 hd)) 3 [tI (GZ v1)])=((done++hd::rest).set (i:Int).toNat (IM v1 hd)).map (We .own)) (dt (by rfl))<|AC (p:=0≤(i:Int)∧(i:Int)<((((done++hd::rest).set (i:Int).toNat (IM v1 hd)).map (We .own)).length:Int)) (di (aT a))<|AC (p:=(((done++hd::rest).set (i:Int).toNat (IM v1 hd)).map (We .own))[0+(i:Int).toNat]?=some (Vj v1 hd)) (bC (aT a))<|AC (p:=(((done++hd::rest).set (i:Int).toNat (IM v1 hd)).map (We .own))[0+(i:Int).toNat]?=some (Vj v1 hd)) (bC (aT a))<|AC (p:=(hd.f3.map Wi).length=(hd.f3.map Wi).length) rfl<|AV (ψ:=fun k=>E.C k 59 [.one (Ww 4 (hd.f3.map Wi)),Wr (inc (GZ v1))]=some [(false,[Ww 4 (((Vb hd v1).1).map Wi)]),Wo ((Vb hd v1).2)]) (F6 hd.f3 (inc (GZ v1)) f)<|AC (p:=(((done++hd::rest).set (i:Int).toNat (IM v1 hd)).map (We .own))[0+(i:Int).toNat]?=some (Vj v1 hd)) (bC (aT a))<|AC (p:=(((done++hd::rest).set (i:Int).toNat (IM v1 hd)).map (We .own)).set (0+(i:Int).toNat) ((Vj v1 hd).set 4 (Ww 4 (((Vb hd v1).1).map Wi)))=((done++hd::rest).set (i:Int).toNat (VI v1 hd)).map (We .own)) (dt (by rfl))<|AN);rw[d,se hi]at r;cases y<;>exact V2 r g
noncomputable def iB (c:List GRun)(d:Int):Option ((List GRun)×Int):=
  if c.length≤9223372036854775807 then(gU c [] 0 d).bind fun y=>match y with
   | .x0 a b=>(some (a,b))else none
theorem Le (x0:List GRun)(c:Int):Ans (iB x0 c) (fun r=>Does E 29 [.one (Ww 5 (x0.map (We .own))),Wr c] [(false,[Ww 5 (r.1.map (We .own))]),Wo r.2]):=by
 unfold iB;apply V6;intro d;apply V5;intro y e;replace e:=I5 x0 [] 0 c rfl d y e;cases y with
 |x0 a b =>have f:=e;exact VZ (DP Tryz.f29 [.lp (.exit 0) (qP a b)] (AL f<|AN))
inductive Aa where|ret (v4:Int)|x0 (v1:Int)
def eD (q0:Kd)(v0:List GRun)(v1 v5:Int):US:=stL 61 [(0,.one (Wx 5 (v0.map (We q0)))),(1,Wr v1),(5,Wr v5)]
def fH (q0:Kd)(a:Int):US:=stL 61 [(4,Wr a)]
def qO (q0:Kd)(a:Int):US:=stL 61 [(1,Wr a)]
abbrev ja:US→Exit→US→Prop:=Round E 32 (aq Tryz.f32 0)
def IX {q0:Kd}(v0:List GRun)(v1 v5:Int):Aa→Prop| .ret a=>Loops E 32 (aq Tryz.f32 0) (eD q0 v0 v1 v5) .ret (fH q0 a)| .x0 b=>Loops E 32 (aq Tryz.f32 0) (eD q0 v0 v1 v5) (.exit 0) (qO q0 b)
noncomputable def jb  : List GRun→Nat→Int→Option Aa|[],i,v1=>some (.x0 v1)|hd::rest,i,v1=>if bN v1=some (aa v1)then cond (!(hd.f0.toList==(aa v1).toList)) (some (.ret (-1:Int))) (cond (hd.f1.f0 != (inc v1)) (some (.ret (-1:Int))) (cond (hd.f1.f1 != (inc (inc v1))) (some (.ret (-1:Int))) (cond (hd.f2 != (inc (inc (inc v1)))) (some (.ret (-1:Int))) (if fT hd.f3 (inc (inc (inc (inc v1))))=some (cD hd.f3 (inc (inc (inc (inc v1)))))then cond (decide ((cD hd.f3 (inc (inc (inc (inc v1)))))<(0:Int))) (some (.ret (-1:Int))) (jb rest (i+1) (cD hd.f3 (inc (inc (inc (inc v1))))))else none))))else none
theorem IW {q0:Kd}(v0:List GRun)(rest:List GRun):∀(i:Nat)(v1:Int),(v0).drop i=rest→v0.length≤9223372036854775807→Ans (jb rest i v1) (IX (q0:=q0) v0 v1 (i:Int)):=by
 induction rest with
 |nil =>intro i v1 b g;have hb:=aP b;unfold jb;exact VZ (V3 (show ja (eD q0 v0 v1 (i:Int)) (.exit 0) (qO q0 v1)from RP [Wu (v0.length:Int),.b false] (ALn v0 (We q0)<|AC hb<|AN)))
 |cons hd rest m =>
  intro i v1 b g;have hb:=aI b;have n:=aJ b g;have h:=az b;have a:=aK b;unfold jb;apply V6;intro c;apply V4<;>intro d
  ·exact VZ (V3 (show ja (eD q0 v0 v1 (i:Int)) .ret (fH q0 (-1:Int))from RP [Wu (v0.length:Int),.b true,.row ((We q0) hd),.ret [Wq (aa v1)],.b true] (ALn v0 (We q0)<|AC hb<|AR (We q0) a<|AD (aF v1 c)<|AC d<|AN)))
  ·apply V4<;>intro e
   ·exact VZ (V3 (show ja (eD q0 v0 v1 (i:Int)) .ret (fH q0 (-1:Int))from RP [Wu (v0.length:Int),.b true,.row ((We q0) hd),.ret [Wq (aa v1)],.b false,.row ((We q0) hd),.b true] (ALn v0 (We q0)<|AC hb<|AR (We q0) a<|AD (aF v1 c)<|AC d<|AR (We q0) a<|AC e<|AN)))
   ·apply V4<;>intro f
    ·exact VZ (V3 (show ja (eD q0 v0 v1 (i:Int)) .ret (fH q0 (-1:Int))from RP [Wu (v0.length:Int),.b true,.row ((We q0) hd),.ret [Wq (aa v1)],.b false,.row ((We q0) hd),.b false,.row ((We q0) hd),.b true] (ALn v0 (We q0)<|AC hb<|AR (We q0) a<|AD (aF v1 c)<|AC d<|AR (We q0) a<|AC e<|AR (We q0) a<|AC f<|AN)))
    ·apply V4<;>intro j
     ·exact VZ (V3 (show ja (eD q0 v0 v1 (i:Int)) .ret (fH q0 (-1:Int))from RP [Wu (v0.length:Int),.b true,.row ((We q0) hd),.ret [Wq (aa v1)],.b false,.row ((We q0) hd),.b false,.row ((We q0) hd),.b false,.row ((We q0) hd),.b true] (ALn v0 (We q0)<|AC hb<|AR (We q0) a<|AD (aF v1 c)<|AC d<|AR (We q0) a<|AC e<|AR (We q0) a<|AC f<|AR (We q0) a<|AC j<|AN)))
     ·apply V6;intro k;apply V4<;>intro l
      ·exact VZ (V3 (show ja (eD q0 v0 v1 (i:Int)) .ret (fH q0 (-1:Int))from RP [Wu (v0.length:Int),.b true,.row ((We q0) hd),.ret [Wq (aa v1)],.b false,.row ((We q0) hd),.b false,.row ((We q0) hd),.b false,.row ((We q0) hd),.b false,.row ((We q0) hd),.ret [Wo (cD hd.f3 (inc (GZ v1)))],.b true] (ALn v0 (We q0)<|AC hb<|AR (We q0) a<|AD (aF v1 c)<|AC d<|AR (We q0) a<|AC e<|AR (We q0) a<|AC f<|AR (We q0) a<|AC j<|AR (We q0) a<|AD (xB hd.f3 (inc (GZ v1)) k)<|AC l<|AN)))
      ·exact(m (i+1) (cD hd.f3 (inc (GZ v1))) h g).mono fun y o=>by have r:ja (eD q0 v0 v1 (i:Int)) .normal (eD q0 v0 (cD hd.f3 (inc (GZ v1))) (inc (i:Int))):=RP [Wu (v0.length:Int),.b true,.row ((We q0) hd),.ret [Wq (aa v1)],.b false,.row ((We q0) hd),.b false,.row ((We q0) hd),.b false,.row ((We q0) hd),.b false,.row ((We q0) hd),.ret [Wo (cD hd.f3 (inc (GZ v1)))],.b false] (ALn v0 (We q0)<|AC hb<|AR (We q0) a<|AD (aF v1 c)<|AC d<|AR (We q0) a<|AC e<|AR (We q0) a<|AC f<|AR (We q0) a<|AC j<|AR (We q0) a<|AD (xB hd.f3 (inc (GZ v1)) k)<|AC l<|AN);rw[n]at r;cases y<;>exact V2 r o
noncomputable def iA (c:List GRun)(d:Int):Option (Int):=
  if c.length≤9223372036854775807 then(jb c 0 d).bind fun y=>match y with
   | .ret a=>(some (a))
   | .x0 b=>(some (b))else none
theorem Ld {q0:Kd}(x0:List GRun)(d:Int):Ans (iA x0 d) (fun r=>Does E 32 [.one (Wx 5 (x0.map (We q0))),Wr d] [Wo r]):=by
 unfold iA;apply V6;intro e;apply V5;intro y c;replace c:=IW (q0:=q0) x0 x0 0 d rfl e y c;cases y with
 |ret a =>have f:=c;exact VZ (DP Tryz.f32 [.lp .ret (fH q0 a)] (AL f<|AN))
 |x0 b =>have f:=c;exact VZ (DP Tryz.f32 [.lp (.exit 0) (qO q0 b)] (AL f<|AN))
noncomputable def bd (x:List GRun)(k:Int):(List GRun)×Int:=(iB x k).getD ([],0)
noncomputable def dq (x:List GRun)(k:Int):Int:=(iA x k).getD (-1)
theorem Ka (a:List GRun)(b:Int)(h:iB a b=some (bd a b)):Does E 29 [.one (Ww 5 (a.map (We .own))),Wr b] [(false,[Ww 5 (((bd a b).1).map (We .own))]),Wo ((bd a b).2)]:=by exact Le a b _ h
theorem AO {q0:Kd}(a:List GRun)(b:Int)(h:iA a b=some (dq a b)):Does E 32 [.one (Wx 5 (a.map (We q0))),Wr b] [Wo (dq a b)]:=by exact Ld a b _ h
theorem Aj:∀(rest done:List GRun)(i:Nat)(k:Int),(∀y∈rest,ab.sm y)→0≤k→k+4200004*(rest.length:Int)≤4611686018427387904 →
  ∃new m,gU rest done i k=some (.x0 (done++new) m)∧k≤m∧m≤k+4200004*(rest.length:Int)∧new.length=rest.length∧(∀y∈new,ab.sm y)∧∀j,jb new j k=some (.x0 m)
 |[],done,i,k,_,g,_=>⟨[],k,by unfold gU;rw[WX],by omega,by simp,rfl,fun y hy=>(by cases hy),fun j=>rfl⟩
 |x::rest,done,i,k,h,g,l=>by
  have n:=h x (by simp);rw[W4]at l ⊢;have a:=jd k (by omega);have b:inc k=k+1:=cr _ (by omega) (by omega);have c:inc (k+1)=(k+1)+1:=cr _ (by omega) (by omega);have d:inc ((k+1)+1)=((k+1)+1)+1:=cr _ (by omega) (by omega);have e:inc (((k+1)+1)+1)=(((k+1)+1)+1)+1:=cr _ (by omega) (by omega);have a5:=FC x.f3 ((((k+1)+1)+1)+1) n.2.2 (by omega) (by omega);have f:decide ((aS x.f3 ((((k+1)+1)+1)+1)).2<(0:Int))=false:=WH (by omega);obtain⟨new,m,g1,q,g3,g4,o,p⟩:=Aj rest (done++[(GRun.mk (aa k) (GSpan.mk (k+1) ((k+1)+1)) (((k+1)+1)+1) (aS x.f3 ((((k+1)+1)+1)+1)).1)]) (i+1) ((aS x.f3 ((((k+1)+1)+1)+1)).2) (fun y hy=>h y (by simp[hy])) (by omega) (by omega);refine⟨(GRun.mk (aa k) (GSpan.mk (k+1) ((k+1)+1)) (((k+1)+1)+1) (aS x.f3 ((((k+1)+1)+1)+1)).1)::new,m,?_,by omega,by omega,by simp[g4],?_,fun j=>?_⟩
  ·unfold gU;simp only[a.1,b,c,d,e,a5.1,a5.2.1,a5.2.2.1,f,W8,g1,XU,XF]
  ·intro y hy;rcases WZ.1 hy with rfl|hy
   ·exact⟨a.2,trivial,a5.2.2.2.2.2⟩
   ·exact o y hy
  ·unfold jb;simp only[a.1,b,c,d,e,a5.1,a5.2.1,a5.2.2.1,f,W8,Xl,Yd,Xq,WO,WK,p]
theorem Jj (l:List GRun)(k:Int)(h:ab.sm l)(b:0≤k)(i:k+4410004200000≤4611686018427387904):iB l k=some (bd l k)∧iA (bd l k).1 k=some (dq (bd l k).1 k)∧dq (bd l k).1 k=(bd l k).2∧k≤(bd l k).2∧(bd l k).2≤k+4410004200000∧ab.sm (bd l k).1:=by
 have j:=h.1;obtain⟨new,m,g1,c,g3,g4,d,f⟩:=Aj l [] 0 k h.2 b (by omega);have e:iB l k=some (new,m):=by unfold iB;rw[Wz (cK h),g1];rfl
 have p:bd l k=(new,m):=by unfold bd;rw[e];rfl
 have a:iA new k=some m:=by unfold iA;rw[Wz (by omega),f];rfl
 have g:dq new k=m:=by unfold dq;rw[a];rfl
 rw[p,g];exact⟨e,a,rfl,c,by omega,⟨by show new.length≤1050000;omega,d⟩⟩
noncomputable def fz (a:GBoard)(b:Int):Option (GBoard×Int):=if ew a.f0 b=some (ap a.f0 b)then if gT a.f1 ((ap a.f0 b).2)=some (aD a.f1 ((ap a.f0 b).2))then if iB a.f2 ((aD a.f1 ((ap a.f0 b).2)).2)=some (bd a.f2 ((aD a.f1 ((ap a.f0 b).2)).2))then some ((GBoard.mk ((ap a.f0 b).1) ((aD a.f1 ((ap a.f0 b).2)).1) ((bd a.f2 ((aD a.f1 ((ap a.f0 b).2)).2)).1) a.f3 a.f4),(bd a.f2 ((aD a.f1 ((ap a.f0 b).2)).2)).2)else none else none else none
noncomputable abbrev VO (a:GBoard)(b:Int):=aD a.f1 ((ap a.f0 b).2)
theorem IZ (a:GBoard)(b:Int):Ans (fz a b) (fun r=>Does E 9 [.agg (Wa .own .own a),Wr b] [(true,Wa .own .own r.1),Wo r.2]):=by unfold fz;apply V6;intro c;apply V6;intro d;apply V6;intro e;exact VZ (DP Tryz.f9 [.ret [(false,[Ww 3 (((ap a.f0 b).1).map Wg)]),Wo ((ap a.f0 b).2)],.ret [(false,[Ww 9 (((VO a b).1).map H2)]),Wo ((VO a b).2)],.ret [(false,[Ww 5 (((bd a.f2 ((VO a b).2)).1).map (We .own))]),Wo ((bd a.f2 ((VO a b).2)).2)]] (AV (ψ:=fun k=>E.C k 27 [.one (Ww 3 (a.f0.map Wg)),Wr b]=some [(false,[Ww 3 (((ap a.f0 b).1).map Wg)]),Wo ((ap a.f0 b).2)]) (DG a.f0 b c)<|AV (ψ:=fun k=>E.C k 28 [.one (Ww 9 (a.f1.map H2)),Wr ((ap a.f0 b).2)]=some [(false,[Ww 9 (((VO a b).1).map H2)]),Wo ((VO a b).2)]) (Iv a.f1 ((ap a.f0 b).2) d)<|AV (ψ:=fun k=>E.C k 29 [.one (Ww 5 (a.f2.map (We .own))),Wr ((VO a b).2)]=some [(false,[Ww 5 (((bd a.f2 ((VO a b).2)).1).map (We .own))]),Wo ((bd a.f2 ((VO a b).2)).2)]) (Ka a.f2 ((VO a b).2) e)<|AN))
noncomputable def gQ (a:GBoard)(b:Int):Option (Int):=if et a.f0 b=some (aB a.f0 b)then cond (decide ((aB a.f0 b)<(0:Int))) (some ((-1:Int))) (if gR a.f1 (aB a.f0 b)=some (bg a.f1 (aB a.f0 b))then cond (decide ((bg a.f1 (aB a.f0 b))<(0:Int))) (some ((-1:Int))) (if iA a.f2 (bg a.f1 (aB a.f0 b))=some (dq a.f2 (bg a.f1 (aB a.f0 b)))then cond (decide ((dq a.f2 (bg a.f1 (aB a.f0 b)))<(0:Int))) (some ((-1:Int))) (some (dq a.f2 (bg a.f1 (aB a.f0 b))))else none)else none)else none
noncomputable abbrev VN (a:GBoard)(b:Int):=bg a.f1 (aB a.f0 b)
theorem IS {q0:Kd}(a:GBoard)(b:Int):Ans (gQ a b) (fun r=>Does E 10 [.agg (Wa .far q0 a),Wr b] [Wo r]):=by
 unfold gQ;apply V6;intro c;apply V4<;>intro d
 ·exact VZ (DP Tryz.f10 [.ret [Wo (aB a.f0 b)],.b true] (AD (lL a.f0 b c)<|AC d<|AN))
 ·apply V6;intro e;apply V4<;>intro f
  ·exact VZ (DP Tryz.f10 [.ret [Wo (aB a.f0 b)],.b false,.ret [Wo (VN a b)],.b true] (AD (lL a.f0 b c)<|AC d<|AV (ψ:=fun k=>E.C k 31 [.one (Wx 9 (a.f1.map (Wd q0 q0))),Wr (aB a.f0 b)]=some [Wo (VN a b)]) (sY a.f1 (aB a.f0 b) e)<|AC f<|AN))
  ·apply V6;intro g;apply V4<;>intro h
   ·exact VZ (DP Tryz.f10 [.ret [Wo (aB a.f0 b)],.b false,.ret [Wo (VN a b)],.b false,.ret [Wo (dq a.f2 (VN a b))],.b true] (AD (lL a.f0 b c)<|AC d<|AV (ψ:=fun k=>E.C k 31 [.one (Wx 9 (a.f1.map (Wd q0 q0))),Wr (aB a.f0 b)]=some [Wo (VN a b)]) (sY a.f1 (aB a.f0 b) e)<|AC f<|AV (ψ:=fun k=>E.C k 32 [.one (Wx 5 (a.f2.map (We q0))),Wr (VN a b)]=some [Wo (dq a.f2 (VN a b))]) (AO a.f2 (VN a b) g)<|AC h<|AN))
   ·exact VZ (DP Tryz.f10 [.ret [Wo (aB a.f0 b)],.b false,.ret [Wo (VN a b)],.b false,.ret [Wo (dq a.f2 (VN a b))],.b false] (AD (lL a.f0 b c)<|AC d<|AV (ψ:=fun k=>E.C k 31 [.one (Wx 9 (a.f1.map (Wd q0 q0))),Wr (aB a.f0 b)]=some [Wo (VN a b)]) (sY a.f1 (aB a.f0 b) e)<|AC f<|AV (ψ:=fun k=>E.C k 32 [.one (Wx 5 (a.f2.map (We q0))),Wr (VN a b)]=some [Wo (dq a.f2 (VN a b))]) (AO a.f2 (VN a b) g)<|AC h<|AN))
noncomputable def ah (x:GBoard)(k:Int):GBoard×Int:=(fz x k).getD (x,0)
noncomputable def bZ (x:GBoard)(k:Int):Int:=(gQ x k).getD (-1)
theorem i7 (a:GBoard)(b:Int)(h:fz a b=some (ah a b)):Does E 9 [.agg (Wa .own .own a),Wr b] [(true,Wa .own .own ((ah a b).1)),Wo ((ah a b).2)]:=by exact IZ a b _ h
theorem o6 {q0:Kd}(a:GBoard)(b:Int)(h:gQ a b=some (bZ a b)):Does E 10 [.agg (Wa .far q0 a),Wr b] [Wo (bZ a b)]:=by exact IS a b _ h
theorem yq (x:GBoard)(k:Int)(h:ab.sm x)(m:0≤k)(n:k+1157633820015750000≤4611686018427387904):fz x k=some (ah x k)∧gQ (ah x k).1 k=some (bZ (ah x k).1 k)∧bZ (ah x k).1 k=(ah x k).2∧k≤(ah x k).2∧(ah x k).2≤k+1157633820015750000∧ab.sm (ah x k).1∧(GBoard.mk (((ah x k).1).f0) (((ah x k).1).f1) (((ah x k).1).f2) x.f3 x.f4)=(ah x k).1:=by
 obtain⟨b,c,d⟩:=h;have a:=CK x.f0 k b (by omega) (by omega);have f:decide ((ap x.f0 k).2<(0:Int))=false:=WH (by omega);have a2:=GT x.f1 ((ap x.f0 k).2) c (by omega) (by omega);have g:decide ((aD x.f1 ((ap x.f0 k).2)).2<(0:Int))=false:=WH (by omega);have a3:=Jj x.f2 ((aD x.f1 ((ap x.f0 k).2)).2) d (by omega) (by omega);have i:decide ((bd x.f2 ((aD x.f1 ((ap x.f0 k).2)).2)).2<(0:Int))=false:=WH (by omega);have e:fz x k=some ((GBoard.mk (ap x.f0 k).1 (aD x.f1 ((ap x.f0 k).2)).1 (bd x.f2 ((aD x.f1 ((ap x.f0 k).2)).2)).1 x.f3 x.f4),((bd x.f2 ((aD x.f1 ((ap x.f0 k).2)).2)).2)):=by unfold fz;simp only[a.1,a.2.1,a.2.2.1,f,a2.1,a2.2.1,a2.2.2.1,g,a3.1,a3.2.1,a3.2.2.1,i,W8]
 have p:ah x k=((GBoard.mk (ap x.f0 k).1 (aD x.f1 ((ap x.f0 k).2)).1 (bd x.f2 ((aD x.f1 ((ap x.f0 k).2)).2)).1 x.f3 x.f4),((bd x.f2 ((aD x.f1 ((ap x.f0 k).2)).2)).2)):=by unfold ah;rw[e];rfl
 have j:gQ (GBoard.mk (ap x.f0 k).1 (aD x.f1 ((ap x.f0 k).2)).1 (bd x.f2 ((aD x.f1 ((ap x.f0 k).2)).2)).1 x.f3 x.f4) k=some ((bd x.f2 ((aD x.f1 ((ap x.f0 k).2)).2)).2):=by unfold gQ;simp only[a.1,a.2.1,a.2.2.1,f,a2.1,a2.2.1,a2.2.2.1,g,a3.1,a3.2.1,a3.2.2.1,i,W8,WO]
 have l:bZ (GBoard.mk (ap x.f0 k).1 (aD x.f1 ((ap x.f0 k).2)).1 (bd x.f2 ((aD x.f1 ((ap x.f0 k).2)).2)).1 x.f3 x.f4) k=((bd x.f2 ((aD x.f1 ((ap x.f0 k).2)).2)).2):=by unfold bZ;rw[j];rfl
 rw[p,l];exact⟨e,j,rfl,by omega,by omega,⟨a.2.2.2.2.2,a2.2.2.2.2.2,a3.2.2.2.2.2⟩,by first|rfl|simp only[a.1,a.2.1,a.2.2.1,f,a2.1,a2.2.1,a2.2.2.1,g,a3.1,a3.2.1,a3.2.2.1,i,W8]⟩
end
end Go.Proofs.YtlgddjncnedkgaaGreatDoor.Am
