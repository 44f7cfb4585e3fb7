/- What the functions that mark plans and runs do. -/
import Derived.Test.YtkgecjmfkcohkaaGreatDoorShells
namespace Go.Proofs.YtkgecjmfkcohkaaGreatDoor.Am
open Go
set_option linter.unusedVariables false
set_option linter.unusedSimpArgs false
section
open Go.Proofs Classical
set_option maxRecDepth 100000
inductive uy where|x0 (v3:ByteArray)
def l4 (v0:Int)(v3:ByteArray):US:=stL 20 [(0,NZ v0),(3,N1 v3)]
def nl (a:ByteArray):US:=stL 20 [(3,N1 a)]
abbrev ux:US→Exit→US→Prop:=Round E 51 (aw Tryz.f51 0)
def B9 (v0:Int)(v3:ByteArray):uy→Prop| .x0 a=>Loops E 51 (aw Tryz.f51 0) (l4 v0 v3) (.exit 0) (nl a)
noncomputable def gn  : Nat→Int→ByteArray→Option uy| 0,_,_=>none|n+1,v0,v3=>cond (decide (v0>(0:Int))) (if(strOfNums ([IntKind.wrap .u8 (IntKind.wrap .i64 ((48:Int)+(Int.tmod v0 10)))])).size+v3.size≤maxStr then gn n (IntKind.wrap .i64 (Int.tdiv v0 10)) ((strOfNums ([IntKind.wrap .u8 (IntKind.wrap .i64 ((48:Int)+(Int.tmod v0 10)))]))++v3)else none) (some (.x0 v3))
theorem B8  (n:Nat):∀(v0:Int)(v3:ByteArray),Ans (gn n v0 v3) (B9 v0 v3):=by
 induction n with
 |zero=>intros;exact Ans.none
 |succ n b =>
  intro v0 v3;unfold gn;apply NQ<;>intro a
  ·refine NS (fun c => ?_);have r:ux (l4 v0 v3) .normal (l4 (IntKind.wrap .i64 (Int.tdiv v0 10)) ((strOfNums ([IntKind.wrap .u8 (IntKind.wrap .i64 ((48:Int)+(Int.tmod v0 10)))]))++v3)):=RP [.b true,.no,.no,.val (.string (strOfNums ([IntKind.wrap .u8 (IntKind.wrap .i64 ((48:Int)+(Int.tmod v0 10)))]))),.val (.string ((strOfNums ([IntKind.wrap .u8 (IntKind.wrap .i64 ((48:Int)+(Int.tmod v0 10)))]))++v3))] (AC a<|AC (p:=(dz (((([IntKind.wrap .u8 (IntKind.wrap .i64 ((48:Int)+(Int.tmod v0 10)))]).map etY).drop 0).take (([IntKind.wrap .u8 (IntKind.wrap .i64 ((48:Int)+(Int.tmod v0 10)))]).map etY).length)).map strOfNums=some (strOfNums ([IntKind.wrap .u8 (IntKind.wrap .i64 ((48:Int)+(Int.tmod v0 10)))]))) (by simp only[OX,OR];exact Fa)<|AC (gw (tab:=E.tab) (t:=9) c)<|AN);exact(b (IntKind.wrap .i64 (Int.tdiv v0 10)) ((strOfNums ([IntKind.wrap .u8 (IntKind.wrap .i64 ((48:Int)+(Int.tmod v0 10)))]))++v3)).mono fun y d=>by cases y<;>exact NO r d
  ·exact NN (NP (show ux (l4 v0 v3) (.exit 0) (nl v3)from RP [.b false] (AC a<|AN)) (by intro h;cases h))
noncomputable def ed (x0:Int):Option (ByteArray):=
  cond (decide (x0≤(0:Int)))
   (some ((⟨#[109,48]⟩:ByteArray)))
   ((gn 9223372036854775808 x0 ByteArray.empty).bind fun y=>match y with
    | .x0 a=>(if(⟨#[109]⟩:ByteArray).size+a.size≤maxStr then some ((⟨#[109]⟩:ByteArray)++a)else none))
theorem Eb (x0:Int):Ans (ed x0) (fun r=>Does E 51 [NZ x0] [NY r]):=by
 unfold ed;apply NQ<;>intro c
 ·exact NN (DP Tryz.f51 [.b true] (AC c<|AN))
 ·refine NR (fun y b => ?_);replace b:=B8 9223372036854775808 x0 ByteArray.empty y b;cases y with
  |x0 a =>have d:=b;refine NS (fun e => ?_);exact NN (DP Tryz.f51 [.b false,.lp (.exit 0) (nl a),.val (.string ((⟨#[109]⟩:ByteArray)++a))] (AC c<|AL d<|AC (gw (tab:=E.tab) (t:=9) e)<|AN))
noncomputable def ai (k:Int):ByteArray:=(ed k).getD ByteArray.empty
theorem Mv:∀(d:Nat)(n:Nat)(v:Int)(s:ByteArray),v<10 ^ d→v≤9223372036854775807→d<n→s.size+d≤100→∃r,gn n v s=some (.x0 r)∧r.size≤s.size+d
 |d,0,v,s,h,_,a,_=>by omega
 | 0,n+1,v,s,h,_,a,_=>by unfold gn;rw[Oe (by simp at h;omega)];exact⟨s,rfl,by omega⟩
 |d+1,n+1,v,s,h,hv,a,hs=>by
  unfold gn;by_cases q:v>0
  ·rw[Of q,Om];have e:Int.tdiv v 10=v/10:=Int.tdiv_eq_ediv_of_nonneg (by omega);rw[Int.pow_succ]at h;have z:(strOfNums [IntKind.wrap .u8 (IntKind.wrap .i64 ((48:Int)+(Int.tmod v 10)))]++s).size=s.size+1:=by rw[Qz];show 1+s.size=_;omega
   have z2:(strOfNums [IntKind.wrap .u8 (IntKind.wrap .i64 ((48:Int)+(Int.tmod v 10)))]).size+s.size≤maxStr:=by show 1+s.size≤4611686018427387904;omega
   rw[N5 z2,e,du _ (by omega) (by omega)];obtain⟨r,b,c⟩:=Mv d n (v/10) (strOfNums [IntKind.wrap .u8 (IntKind.wrap .i64 ((48:Int)+(Int.tmod v 10)))]++s) (by omega) (by omega) (by omega) (by omega);exact⟨r,b,by omega⟩
  ·rw[Oe q];exact⟨s,rfl,by omega⟩
theorem pc (k:Int)(b:k≤4611686018427387904):ed k=some (ai k)∧ae.sm (ai k):=by
 have e:∃r,ed k=some r∧r.size≤100:=by
  unfold ed;by_cases q:k≤0
  ·rw[Of q];exact⟨_,rfl,by decide⟩
  ·rw[Oe q,Ou];obtain⟨r,g1,a⟩:=Mv 19 9223372036854775808 k ByteArray.empty (by omega) (by omega) (by omega) (by decide);have z:ByteArray.empty.size=0:=rfl;have z2:(⟨#[109]⟩:ByteArray).size=1:=rfl;rw[g1,N4];simp only;rw[N5 (by rw[z2];unfold maxStr;omega)];exact⟨_,rfl,by rw[Qz,z2];omega⟩
 obtain⟨r,g1,a⟩:=e;have p:ai k=r:=by unfold ai;rw[g1];rfl
 rw[p];exact⟨g1,show r.size≤1050000 by omega⟩
theorem pW (x0:Int)(h:ed x0=some (ai x0)):Does E 51 [NZ x0] [NY (ai x0)]:=by exact Eb x0 _ h
inductive qn where|x0 (v0:List ByteArray) (v1:Int)
def jE (v0:List ByteArray)(v1 v5:Int):US:=stL 20 [(0,.one (.s .own () 1 (v0.map etS))),(1,NZ v1),(5,NZ v5)]
def kK (a:List ByteArray)(b:Int):US:=stL 20 [(0,.one (.s .own () 1 (a.map etS))),(1,NZ b)]
abbrev qm:US→Exit→US→Prop:=Round E 52 (aw Tryz.f52 0)
def x6 (v0:List ByteArray)(v1 v5:Int):qn→Prop| .x0 a b=>Loops E 52 (aw Tryz.f52 0) (jE v0 v1 v5) (.exit 0) (kK a b)
noncomputable def dy  : List ByteArray→List ByteArray→Nat→Int→Option qn|[],done,i,v1=>some (.x0 done v1)|hd::rest,done,i,v1=>if ed v1=some (ai v1)then dy rest (done++[(ai v1)]) (i+1) (inc v1)else none
theorem x5  (rest:List ByteArray):∀(done:List ByteArray)(i:Nat)(v1:Int),i=done.length→(done++rest).length≤9223372036854775807→Ans (dy rest done i v1) (x6 (done++rest) v1 (i:Int)):=by
 induction rest with
 |nil =>intro done i v1 hi a;rw[OC];have hb:=Em hi;unfold dy;exact NN (NP (show qm (jE done v1 (i:Int)) (.exit 0) (kK done v1)from RP [N2 (done.length:Int),.b false] (ALn done etS<|AC hb<|AN)) (by intro h;cases h))
 |cons hd rest b =>intro done i v1 hi a;have hb:=As (hd:=hd) (rest:=rest) hi;have c:=At (hd:=hd) (rest:=rest) hi a;have d:=En (hd:=hd) (rest:=rest) hi;unfold dy;refine NS (fun e => ?_);exact(b (done++[(ai v1)]) (i+1) (inc v1) (by simp[hi]) (by simpa using a)).mono fun y f=>by have r:qm (jE (done++hd::rest) v1 (i:Int)) .normal (jE ((done++hd::rest).set (i:Int).toNat (ai v1)) (inc v1) (inc (i:Int))):=RP [N2 ((done++hd::rest).length:Int),.b true,.ret [NY (ai v1)],.row (etS hd),.rows (((done++hd::rest).set (i:Int).toNat (ai v1)).map etS)] (ALn (done++hd::rest) etS<|AC hb<|AD (pW v1 e)<|AG etS d<|AC (p:=((done++hd::rest).map etS).set (0+(i:Int).toNat) (an (etS hd) 0 [tS (ai v1)])=((done++hd::rest).set (i:Int).toNat (ai v1)).map etS) (cB (by rfl))<|AN);rw[c,yg hi]at r;cases y<;>exact NO r f
noncomputable def dX (x0:List ByteArray)(c:Int):Option ((List ByteArray)×Int):=
  if x0.length≤9223372036854775807 then(dy x0 [] 0 c).bind fun y=>match y with
   | .x0 a b=>(some (a,b))else none
theorem zb (x0:List ByteArray)(c:Int):Ans (dX x0 c) (fun r=>Does E 52 [.one (.s .own () 1 (x0.map etS)),NZ c] [(false,[.s .own () 1 (r.1.map etS)]),NW r.2]):=by
 unfold dX;refine NS (fun d => ?_);refine NR (fun y e => ?_);replace e:=x5 x0 [] 0 c rfl d y e;cases y with
 |x0 a b =>have f:=e;exact NN (DP Tryz.f52 [.lp (.exit 0) (kK a b)] (AL f<|AN))
noncomputable def aJ (x:List ByteArray)(k:Int):(List ByteArray)×Int:=(dX x k).getD ([],0)
theorem yu (x0:List ByteArray)(a:Int)(h:dX x0 a=some (aJ x0 a)):Does E 52 [.one (.s .own () 1 (x0.map etS)),NZ a] [(false,[.s .own () 1 (((aJ x0 a).1).map etS)]),NW ((aJ x0 a).2)]:=by exact zb x0 a _ h
theorem qq:∀(rest done:List ByteArray)(i:Nat)(k:Int),(∀y∈rest,ae.sm y)→0≤k→k+1*(rest.length:Int)≤4611686018427387904 →
  ∃new m,dy rest done i k=some (.x0 (done++new) m)∧k≤m∧m≤k+1*(rest.length:Int)∧new.length=rest.length∧(∀y∈new,ae.sm y)
 |[],done,i,k,_,b,_=>⟨[],k,by unfold dy;rw[OC],by omega,by simp,rfl,fun y hy=>(by cases hy)⟩
 |x::rest,done,i,k,h,b,c=>by
  have f:=h x (by simp);rw[OI]at c ⊢;have a:=pc k (by omega);have d:inc k=k+1:=eJ _ (by omega) (by omega);obtain⟨new,m,g1,g,g3,g4,e⟩:=qq rest (done++[(ai k)]) (i+1) (k+1) (fun y hy=>h y (by simp[hy])) (by omega) (by omega);refine⟨(ai k)::new,m,?_,by omega,by omega,by simp[g4],?_⟩
  ·unfold dy;simp only[a.1,d,OH,g1,PW,PC]
  ·intro y hy;rcases OB.1 hy with rfl|hy
   ·exact a.2
   ·exact e y hy
theorem ya (l:List ByteArray)(k:Int)(h:ae.sm l)(a:0≤k)(d:k+1050000≤4611686018427387904):dX l k=some (aJ l k)∧True∧True∧k≤(aJ l k).2∧(aJ l k).2≤k+1050000∧ae.sm (aJ l k).1:=by
 have f:=h.1;obtain⟨new,m,g1,b,g3,g4,c⟩:=qq l [] 0 k h.2 a (by omega);have e:dX l k=some (new,m):=by unfold dX;rw[N5 (iN h),g1];rfl
 have p:aJ l k=(new,m):=by unfold aJ;rw[e];rfl
 rw[p];exact⟨e,trivial,trivial,b,by omega,⟨by show new.length≤1050000;omega,c⟩⟩
inductive sH where|x0 (v0:List GTask) (v1:Int)
def lf (v0:List GTask)(v1 v5:Int):US:=stL 52 [(0,.one (.s .own () 5 (v0.map (GTask.t .own)))),(1,NZ v1),(5,NZ v5)]
def mr (a:List GTask)(b:Int):US:=stL 52 [(0,.one (.s .own () 5 (a.map (GTask.t .own)))),(1,NZ b)]
abbrev sG:US→Exit→US→Prop:=Round E 33 (aw Tryz.f33 0)
def Al (v0:List GTask)(v1 v5:Int):sH→Prop| .x0 a b=>Loops E 33 (aw Tryz.f33 0) (lf v0 v1 v5) (.exit 0) (mr a b)
noncomputable def eN  : List GTask→List GTask→Nat→Int→Option sH|[],done,i,v1=>some (.x0 done v1)|hd::rest,done,i,v1=>if ed v1=some (ai v1)then if ed (inc v1)=some (ai (inc v1))then if dX hd.f4 (inc (inc (inc (inc v1))))=some (aJ hd.f4 (inc (inc (inc (inc v1)))))then eN rest (done++[(GTask.mk (ai v1) (ai (inc v1)) (inc (inc v1)) ((Int.tmod (inc (inc (inc v1))) (3:Int))==(0:Int)) ((aJ hd.f4 (inc (inc (inc (inc v1))))).1))]) (i+1) ((aJ hd.f4 (inc (inc (inc (inc v1))))).2)else none else none else none
theorem Ak  (rest:List GTask):∀(done:List GTask)(i:Nat)(v1:Int),i=done.length→(done++rest).length≤9223372036854775807→Ans (eN rest done i v1) (Al (done++rest) v1 (i:Int)):=by
 induction rest with
 |nil =>intro done i v1 hi b;rw[OC];have hb:=Em hi;unfold eN;exact NN (NP (show sG (lf done v1 (i:Int)) (.exit 0) (mr done v1)from RP [N2 (done.length:Int),.b false] (ALn done (GTask.t .own)<|AC hb<|AN)) (by intro h;cases h))
 |cons hd rest c =>intro done i v1 hi b;have hb:=As (hd:=hd) (rest:=rest) hi;have d:=At (hd:=hd) (rest:=rest) hi b;have a:=En (hd:=hd) (rest:=rest) hi;unfold eN;refine NS (fun e => ?_);refine NS (fun f => ?_);refine NS (fun g => ?_);exact(c (done++[(GTask.mk (ai v1) (ai (inc v1)) (inc (inc v1)) ((Int.tmod (inc (inc (inc v1))) (3:Int))==(0:Int)) ((aJ hd.f4 (inc (inc (inc (inc v1))))).1))]) (i+1) ((aJ hd.f4 (inc (inc (inc (inc v1))))).2) (by simp[hi]) (by simpa using b)).mono fun y j=>by have r:sG (lf (done++hd::rest) v1 (i:Int)) .normal (lf ((done++hd::rest).set (i:Int).toNat (GTask.mk (ai v1) (ai (inc v1)) (inc (inc v1)) ((Int.tmod (inc (inc (inc v1))) (3:Int))==(0:Int)) ((aJ hd.f4 (inc (inc (inc (inc v1))))).1))) ((aJ hd.f4 (inc (inc (inc (inc v1))))).2) (inc (i:Int))):=RP [N2 ((done++hd::rest).length:Int),.b true,.ret [NY (ai v1)],.row ((GTask.t .own) hd),.rows (((done++hd::rest).set (i:Int).toNat (GTask.mk (ai v1) hd.f1 hd.f2 hd.f3 hd.f4)).map (GTask.t .own)),.ret [NY (ai (inc v1))],.row ((GTask.t .own) (GTask.mk (ai v1) hd.f1 hd.f2 hd.f3 hd.f4)),.rows (((done++hd::rest).set (i:Int).toNat (GTask.mk (ai v1) (ai (inc v1)) hd.f2 hd.f3 hd.f4)).map (GTask.t .own)),.row ((GTask.t .own) (GTask.mk (ai v1) (ai (inc v1)) hd.f2 hd.f3 hd.f4)),.rows (((done++hd::rest).set (i:Int).toNat (GTask.mk (ai v1) (ai (inc v1)) (inc (inc v1)) hd.f3 hd.f4)).map (GTask.t .own)),.row ((GTask.t .own) (GTask.mk (ai v1) (ai (inc v1)) (inc (inc v1)) hd.f3 hd.f4)),.rows (((done++hd::rest).set (i:Int).toNat (GTask.mk (ai v1) (ai (inc v1)) (inc (inc v1)) ((Int.tmod (inc (inc (inc v1))) (3:Int))==(0:Int)) hd.f4)).map (GTask.t .own)),.row ((GTask.t .own) (GTask.mk (ai v1) (ai (inc v1)) (inc (inc v1)) ((Int.tmod (inc (inc (inc v1))) (3:Int))==(0:Int)) hd.f4)),.row ((GTask.t .own) (GTask.mk (ai v1) (ai (inc v1)) (inc (inc v1)) ((Int.tmod (inc (inc (inc v1))) (3:Int))==(0:Int)) hd.f4)),.ret [(false,[.s .own () 1 (((aJ hd.f4 (inc (inc (inc (inc v1))))).1).map etS)]),NW ((aJ hd.f4 (inc (inc (inc (inc v1))))).2)],.row ((GTask.t .own) (GTask.mk (ai v1) (ai (inc v1)) (inc (inc v1)) ((Int.tmod (inc (inc (inc v1))) (3:Int))==(0:Int)) hd.f4)),.rows (((done++hd::rest).set (i:Int).toNat (GTask.mk (ai v1) (ai (inc v1)) (inc (inc v1)) ((Int.tmod (inc (inc (inc v1))) (3:Int))==(0:Int)) ((aJ hd.f4 (inc (inc (inc (inc v1))))).1))).map (GTask.t .own))] (ALn (done++hd::rest) (GTask.t .own)<|AC hb<|AD (pW v1 e)<|AG (GTask.t .own) a<|AC (p:=((done++hd::rest).map (GTask.t .own)).set (0+(i:Int).toNat) (an ((GTask.t .own) hd) 0 [tS (ai v1)])=((done++hd::rest).set (i:Int).toNat (GTask.mk (ai v1) hd.f1 hd.f2 hd.f3 hd.f4)).map (GTask.t .own)) (cB (by rfl))<|AD (pW (inc v1) f)<|AC (p:=0≤(i:Int)∧(i:Int)<((((done++hd::rest).set (i:Int).toNat (GTask.mk (ai v1) hd.f1 hd.f2 hd.f3 hd.f4)).map (GTask.t .own)).length:Int)) (km (bg a))<|AC (p:=(((done++hd::rest).set (i:Int).toNat (GTask.mk (ai v1) hd.f1 hd.f2 hd.f3 hd.f4)).map (GTask.t .own))[0+(i:Int).toNat]?=some ((GTask.t .own) (GTask.mk (ai v1) hd.f1 hd.f2 hd.f3 hd.f4))) (bR (bg a))<|AC (p:=(((done++hd::rest).set (i:Int).toNat (GTask.mk (ai v1) hd.f1 hd.f2 hd.f3 hd.f4)).map (GTask.t .own)).set (0+(i:Int).toNat) (an ((GTask.t .own) (GTask.mk (ai v1) hd.f1 hd.f2 hd.f3 hd.f4)) 1 [tS (ai (inc v1))])=((done++hd::rest).set (i:Int).toNat (GTask.mk (ai v1) (ai (inc v1)) hd.f2 hd.f3 hd.f4)).map (GTask.t .own)) (d8 (by rfl))<|AC (p:=0≤(i:Int)∧(i:Int)<((((done++hd::rest).set (i:Int).toNat (GTask.mk (ai v1) (ai (inc v1)) hd.f2 hd.f3 hd.f4)).map (GTask.t .own)).length:Int)) (km (bg a))<|AC (p:=(((done++hd::rest).set (i:Int).toNat (GTask.mk (ai v1) (ai (inc v1)) hd.f2 hd.f3 hd.f4)).map (GTask.t .own))[0+(i:Int).toNat]?=some ((GTask.t .own) (GTask.mk (ai v1) (ai (inc v1)) hd.f2 hd.f3 hd.f4))) (bR (bg a))<|AC (p:=(((done++hd::rest).set (i:Int).toNat (GTask.mk (ai v1) (ai (inc v1)) hd.f2 hd.f3 hd.f4)).map (GTask.t .own)).set (0+(i:Int).toNat) (an ((GTask.t .own) (GTask.mk (ai v1) (ai (inc v1)) hd.f2 hd.f3 hd.f4)) 2 [tI (inc (inc v1))])=((done++hd::rest).set (i:Int).toNat (GTask.mk (ai v1) (ai (inc v1)) (inc (inc v1)) hd.f3 hd.f4)).map (GTask.t .own)) (d8 (by rfl))<|AC (p:=0≤(i:Int)∧(i:Int)<((((done++hd::rest).set (i:Int).toNat (GTask.mk (ai v1) (ai (inc v1)) (inc (inc v1)) hd.f3 hd.f4)).map (GTask.t .own)).length:Int)) (km (bg a))<|AC (p:=(((done++hd::rest).set (i:Int).toNat (GTask.mk (ai v1) (ai (inc v1)) (inc (inc v1)) hd.f3 hd.f4)).map (GTask.t .own))[0+(i:Int).toNat]?=some ((GTask.t .own) (GTask.mk (ai v1) (ai (inc v1)) (inc (inc v1)) hd.f3 hd.f4))) (bR (bg a))<|AC (p:=(((done++hd::rest).set (i:Int).toNat (GTask.mk (ai v1) (ai (inc v1)) (inc (inc v1)) hd.f3 hd.f4)).map (GTask.t .own)).set (0+(i:Int).toNat) (an ((GTask.t .own) (GTask.mk (ai v1) (ai (inc v1)) (inc (inc v1)) hd.f3 hd.f4)) 3 [tB ((Int.tmod (inc (inc (inc v1))) (3:Int))==(0:Int))])=((done++hd::rest).set (i:Int).toNat (GTask.mk (ai v1) (ai (inc v1)) (inc (inc v1)) ((Int.tmod (inc (inc (inc v1))) (3:Int))==(0:Int)) hd.f4)).map (GTask.t .own)) (d8 (by rfl))<|AC (p:=0≤(i:Int)∧(i:Int)<((((done++hd::rest).set (i:Int).toNat (GTask.mk (ai v1) (ai (inc v1)) (inc (inc v1)) ((Int.tmod (inc (inc (inc v1))) (3:Int))==(0:Int)) hd.f4)).map (GTask.t .own)).length:Int)) (km (bg a))<|AC (p:=(((done++hd::rest).set (i:Int).toNat (GTask.mk (ai v1) (ai (inc v1)) (inc (inc v1)) ((Int.tmod (inc (inc (inc v1))) (3:Int))==(0:Int)) hd.f4)).map (GTask.t .own))[0+(i:Int).toNat]?=some ((GTask.t .own) (GTask.mk (ai v1) (ai (inc v1)) (inc (inc v1)) ((Int.tmod (inc (inc (inc v1))) (3:Int))==(0:Int)) hd.f4))) (bR (bg a))<|AC (p:=(((done++hd::rest).set (i:Int).toNat (GTask.mk (ai v1) (ai (inc v1)) (inc (inc v1)) ((Int.tmod (inc (inc (inc v1))) (3:Int))==(0:Int)) hd.f4)).map (GTask.t .own))[0+(i:Int).toNat]?=some ((GTask.t .own) (GTask.mk (ai v1) (ai (inc v1)) (inc (inc v1)) ((Int.tmod (inc (inc (inc v1))) (3:Int))==(0:Int)) hd.f4))) (bR (bg a))<|AC (p:=(hd.f4.map etS).length=(hd.f4.map etS).length) rfl<|AV (ψ:=fun k=>E.C k 52 [.one (.s .own () 1 (hd.f4.map etS)),NZ (inc (inc (inc (inc v1))))]=some [(false,[.s .own () 1 (((aJ hd.f4 (inc (inc (inc (inc v1))))).1).map etS)]),NW ((aJ hd.f4 (inc (inc (inc (inc v1))))).2)]) (yu hd.f4 (inc (inc (inc (inc v1)))) g)<|AC (p:=(((done++hd::rest).set (i:Int).toNat (GTask.mk (ai v1) (ai (inc v1)) (inc (inc v1)) ((Int.tmod (inc (inc (inc v1))) (3:Int))==(0:Int)) hd.f4)).map (GTask.t .own))[0+(i:Int).toNat]?=some ((GTask.t .own) (GTask.mk (ai v1) (ai (inc v1)) (inc (inc v1)) ((Int.tmod (inc (inc (inc v1))) (3:Int))==(0:Int)) hd.f4))) (bR (bg a))<|AC (p:=(((done++hd::rest).set (i:Int).toNat (GTask.mk (ai v1) (ai (inc v1)) (inc (inc v1)) ((Int.tmod (inc (inc (inc v1))) (3:Int))==(0:Int)) hd.f4)).map (GTask.t .own)).set (0+(i:Int).toNat) (((GTask.t .own) (GTask.mk (ai v1) (ai (inc v1)) (inc (inc v1)) ((Int.tmod (inc (inc (inc v1))) (3:Int))==(0:Int)) hd.f4)).set 4 (.s .own () 1 (((aJ hd.f4 (inc (inc (inc (inc v1))))).1).map etS)))=((done++hd::rest).set (i:Int).toNat (GTask.mk (ai v1) (ai (inc v1)) (inc (inc v1)) ((Int.tmod (inc (inc (inc v1))) (3:Int))==(0:Int)) ((aJ hd.f4 (inc (inc (inc (inc v1))))).1))).map (GTask.t .own)) (d8 (by rfl))<|AN);rw[d,yg hi]at r;cases y<;>exact NO r j
noncomputable def fm (x0:List GTask)(c:Int):Option ((List GTask)×Int):=
  if x0.length≤9223372036854775807 then(eN x0 [] 0 c).bind fun y=>match y with
   | .x0 a b=>(some (a,b))else none
theorem B7 (x0:List GTask)(c:Int):Ans (fm x0 c) (fun r=>Does E 33 [.one (.s .own () 5 (x0.map (GTask.t .own))),NZ c] [(false,[.s .own () 5 (r.1.map (GTask.t .own))]),NW r.2]):=by
 unfold fm;refine NS (fun d => ?_);refine NR (fun y e => ?_);replace e:=Ak x0 [] 0 c rfl d y e;cases y with
 |x0 a b =>have f:=e;exact NN (DP Tryz.f33 [.lp (.exit 0) (mr a b)] (AL f<|AN))
noncomputable def be (x:List GTask)(k:Int):(List GTask)×Int:=(fm x k).getD ([],0)
theorem BR (x0:List GTask)(a:Int)(h:fm x0 a=some (be x0 a)):Does E 33 [.one (.s .own () 5 (x0.map (GTask.t .own))),NZ a] [(false,[.s .own () 5 (((be x0 a).1).map (GTask.t .own))]),NW ((be x0 a).2)]:=by exact B7 x0 a _ h
theorem sL:∀(rest done:List GTask)(i:Nat)(k:Int),(∀y∈rest,ae.sm y)→0≤k→k+1050004*(rest.length:Int)≤4611686018427387904 →
  ∃new m,eN rest done i k=some (.x0 (done++new) m)∧k≤m∧m≤k+1050004*(rest.length:Int)∧new.length=rest.length∧(∀y∈new,ae.sm y)
 |[],done,i,k,_,b,_=>⟨[],k,by unfold eN;rw[OC],by omega,by simp,rfl,fun y hy=>(by cases hy)⟩
 |x::rest,done,i,k,h,b,c=>by
  have d:=h x (by simp);rw[OI]at c ⊢;have a:=pc k (by omega);have e:inc k=k+1:=eJ _ (by omega) (by omega);have t2:=pc (k+1) (by omega);have f:inc (k+1)=(k+1)+1:=eJ _ (by omega) (by omega);have g:inc ((k+1)+1)=((k+1)+1)+1:=eJ _ (by omega) (by omega);have j:inc (((k+1)+1)+1)=(((k+1)+1)+1)+1:=eJ _ (by omega) (by omega);have a5:=ya x.f4 ((((k+1)+1)+1)+1) d.2.2 (by omega) (by omega);have l:decide ((aJ x.f4 ((((k+1)+1)+1)+1)).2<(0:Int))=false:=Oe (by omega);obtain⟨new,m,g1,o,g3,g4,n⟩:=sL rest (done++[(GTask.mk (ai k) (ai (k+1)) ((k+1)+1) ((Int.tmod (((k+1)+1)+1) (3:Int))==(0:Int)) (aJ x.f4 ((((k+1)+1)+1)+1)).1)]) (i+1) ((aJ x.f4 ((((k+1)+1)+1)+1)).2) (fun y hy=>h y (by simp[hy])) (by omega) (by omega);refine⟨(GTask.mk (ai k) (ai (k+1)) ((k+1)+1) ((Int.tmod (((k+1)+1)+1) (3:Int))==(0:Int)) (aJ x.f4 ((((k+1)+1)+1)+1)).1)::new,m,?_,by omega,by omega,by simp[g4],?_⟩
  ·unfold eN;simp only[a.1,e,t2.1,f,g,j,a5.1,l,OH,g1,PW,PC]
  ·intro y hy;rcases OB.1 hy with rfl|hy
   ·exact⟨a.2,t2.2,a5.2.2.2.2.2⟩
   ·exact n y hy
theorem Au (l:List GTask)(k:Int)(h:ae.sm l)(a:0≤k)(d:k+1102504200000≤4611686018427387904):fm l k=some (be l k)∧True∧True∧k≤(be l k).2∧(be l k).2≤k+1102504200000∧ae.sm (be l k).1:=by
 have f:=h.1;obtain⟨new,m,g1,b,g3,g4,c⟩:=sL l [] 0 k h.2 a (by omega);have e:fm l k=some (new,m):=by unfold fm;rw[N5 (iN h),g1];rfl
 have p:be l k=(new,m):=by unfold be;rw[e];rfl
 rw[p];exact⟨e,trivial,trivial,b,by omega,⟨by show new.length≤1050000;omega,c⟩⟩
noncomputable def gK (x0:GDag)(a:Int):Option (GDag×Int):=if fm x0.f5 a=some (be x0.f5 a)then some ((GDag.mk x0.f0 x0.f1 x0.f2 x0.f3 x0.f4 ((be x0.f5 a).1)),(be x0.f5 a).2)else none
theorem F8 (x0:GDag)(a:Int):Ans (gK x0 a) (fun r=>Does E 12 [.agg (GDag.t .own .own x0),NZ a] [(true,GDag.t .own .own r.1),NW r.2]):=by unfold gK;refine NS (fun b => ?_);exact NN (DP Tryz.f12 [.ret [(false,[.s .own () 5 (((be x0.f5 a).1).map (GTask.t .own))]),NW ((be x0.f5 a).2)]] (AV (ψ:=fun k=>E.C k 33 [.one (.s .own () 5 (x0.f5.map (GTask.t .own))),NZ a]=some [(false,[.s .own () 5 (((be x0.f5 a).1).map (GTask.t .own))]),NW ((be x0.f5 a).2)]) (BR x0.f5 a b)<|AN))
noncomputable def av (x:GDag)(k:Int):GDag×Int:=(gK x k).getD (x,0)
theorem om (x0:GDag)(a:Int)(h:gK x0 a=some (av x0 a)):Does E 12 [.agg (GDag.t .own .own x0),NZ a] [(true,GDag.t .own .own ((av x0 a).1)),NW ((av x0 a).2)]:=by exact F8 x0 a _ h
theorem Eu (x:GDag)(k:Int)(h:ae.sm x)(g:0≤k)(i:k+1102504200000≤4611686018427387904):gK x k=some (av x k)∧True∧True∧k≤(av x k).2∧(av x k).2≤k+1102504200000∧ae.sm (av x k).1∧(GDag.mk x.f0 x.f1 x.f2 x.f3 x.f4 (((av x k).1).f5))=(av x k).1:=by
 obtain⟨a,b,c⟩:=h;have d:=Au x.f5 k c (by omega) (by omega);have f:decide ((be x.f5 k).2<(0:Int))=false:=Oe (by omega);have e:gK x k=some ((GDag.mk x.f0 x.f1 x.f2 x.f3 x.f4 (be x.f5 k).1),((be x.f5 k).2)):=by unfold gK;simp only[d.1,f,OH]
 have p:av x k=((GDag.mk x.f0 x.f1 x.f2 x.f3 x.f4 (be x.f5 k).1),((be x.f5 k).2)):=by unfold av;rw[e];rfl
 rw[p];exact⟨e,trivial,trivial,by omega,by omega,⟨a,b,d.2.2.2.2.2⟩,by first|rfl|simp only[d.1,f,OH]⟩
inductive rf where|x0 (v0:List GState) (v1:Int)
def kr (v0:List GState)(v1 v5:Int):US:=stL 41 [(0,.one (.s .own () 4 (v0.map GState.t))),(1,NZ v1),(5,NZ v5)]
def lI (a:List GState)(b:Int):US:=stL 41 [(0,.one (.s .own () 4 (a.map GState.t))),(1,NZ b)]
abbrev re:US→Exit→US→Prop:=Round E 34 (aw Tryz.f34 0)
def za (v0:List GState)(v1 v5:Int):rf→Prop| .x0 a b=>Loops E 34 (aw Tryz.f34 0) (kr v0 v1 v5) (.exit 0) (lI a b)
noncomputable def dW  : List GState→List GState→Nat→Int→Option rf|[],done,i,v1=>some (.x0 done v1)|hd::rest,done,i,v1=>dW rest (done++[(GState.mk v1 (inc v1) (inc (inc v1)) (inc (inc (inc v1))))]) (i+1) (inc (inc (inc (inc v1))))
theorem y9  (rest:List GState):∀(done:List GState)(i:Nat)(v1:Int),i=done.length→(done++rest).length≤9223372036854775807→Ans (dW rest done i v1) (za (done++rest) v1 (i:Int)):=by
 induction rest with
 |nil =>intro done i v1 hi b;rw[OC];have hb:=Em hi;unfold dW;exact NN (NP (show re (kr done v1 (i:Int)) (.exit 0) (lI done v1)from RP [N2 (done.length:Int),.b false] (ALn done GState.t<|AC hb<|AN)) (by intro h;cases h))
 |cons hd rest c =>intro done i v1 hi b;have hb:=As (hd:=hd) (rest:=rest) hi;have d:=At (hd:=hd) (rest:=rest) hi b;have a:=En (hd:=hd) (rest:=rest) hi;unfold dW;exact(c (done++[(GState.mk v1 (inc v1) (inc (inc v1)) (inc (inc (inc v1))))]) (i+1) (inc (inc (inc (inc v1)))) (by simp[hi]) (by simpa using b)).mono fun y e=>by have r:re (kr (done++hd::rest) v1 (i:Int)) .normal (kr ((done++hd::rest).set (i:Int).toNat (GState.mk v1 (inc v1) (inc (inc v1)) (inc (inc (inc v1))))) (inc (inc (inc (inc v1)))) (inc (i:Int))):=RP [N2 ((done++hd::rest).length:Int),.b true,.row (GState.t hd),.rows (((done++hd::rest).set (i:Int).toNat (GState.mk v1 hd.f1 hd.f2 hd.f3)).map GState.t),.row (GState.t (GState.mk v1 hd.f1 hd.f2 hd.f3)),.rows (((done++hd::rest).set (i:Int).toNat (GState.mk v1 (inc v1) hd.f2 hd.f3)).map GState.t),.row (GState.t (GState.mk v1 (inc v1) hd.f2 hd.f3)),.rows (((done++hd::rest).set (i:Int).toNat (GState.mk v1 (inc v1) (inc (inc v1)) hd.f3)).map GState.t),.row (GState.t (GState.mk v1 (inc v1) (inc (inc v1)) hd.f3)),.rows (((done++hd::rest).set (i:Int).toNat (GState.mk v1 (inc v1) (inc (inc v1)) (inc (inc (inc v1))))).map GState.t)] (ALn (done++hd::rest) GState.t<|AC hb<|AG GState.t a<|AC (p:=((done++hd::rest).map GState.t).set (0+(i:Int).toNat) (an (GState.t hd) 0 [tI v1])=((done++hd::rest).set (i:Int).toNat (GState.mk v1 hd.f1 hd.f2 hd.f3)).map GState.t) (cB (by rfl))<|AC (p:=0≤(i:Int)∧(i:Int)<((((done++hd::rest).set (i:Int).toNat (GState.mk v1 hd.f1 hd.f2 hd.f3)).map GState.t).length:Int)) (km (bg a))<|AC (p:=(((done++hd::rest).set (i:Int).toNat (GState.mk v1 hd.f1 hd.f2 hd.f3)).map GState.t)[0+(i:Int).toNat]?=some (GState.t (GState.mk v1 hd.f1 hd.f2 hd.f3))) (bR (bg a))<|AC (p:=(((done++hd::rest).set (i:Int).toNat (GState.mk v1 hd.f1 hd.f2 hd.f3)).map GState.t).set (0+(i:Int).toNat) (an (GState.t (GState.mk v1 hd.f1 hd.f2 hd.f3)) 1 [tI (inc v1)])=((done++hd::rest).set (i:Int).toNat (GState.mk v1 (inc v1) hd.f2 hd.f3)).map GState.t) (d8 (by rfl))<|AC (p:=0≤(i:Int)∧(i:Int)<((((done++hd::rest).set (i:Int).toNat (GState.mk v1 (inc v1) hd.f2 hd.f3)).map GState.t).length:Int)) (km (bg a))<|AC (p:=(((done++hd::rest).set (i:Int).toNat (GState.mk v1 (inc v1) hd.f2 hd.f3)).map GState.t)[0+(i:Int).toNat]?=some (GState.t (GState.mk v1 (inc v1) hd.f2 hd.f3))) (bR (bg a))<|AC (p:=(((done++hd::rest).set (i:Int).toNat (GState.mk v1 (inc v1) hd.f2 hd.f3)).map GState.t).set (0+(i:Int).toNat) (an (GState.t (GState.mk v1 (inc v1) hd.f2 hd.f3)) 2 [tI (inc (inc v1))])=((done++hd::rest).set (i:Int).toNat (GState.mk v1 (inc v1) (inc (inc v1)) hd.f3)).map GState.t) (d8 (by rfl))<|AC (p:=0≤(i:Int)∧(i:Int)<((((done++hd::rest).set (i:Int).toNat (GState.mk v1 (inc v1) (inc (inc v1)) hd.f3)).map GState.t).length:Int)) (km (bg a))<|AC (p:=(((done++hd::rest).set (i:Int).toNat (GState.mk v1 (inc v1) (inc (inc v1)) hd.f3)).map GState.t)[0+(i:Int).toNat]?=some (GState.t (GState.mk v1 (inc v1) (inc (inc v1)) hd.f3))) (bR (bg a))<|AC (p:=(((done++hd::rest).set (i:Int).toNat (GState.mk v1 (inc v1) (inc (inc v1)) hd.f3)).map GState.t).set (0+(i:Int).toNat) (an (GState.t (GState.mk v1 (inc v1) (inc (inc v1)) hd.f3)) 3 [tI (inc (inc (inc v1)))])=((done++hd::rest).set (i:Int).toNat (GState.mk v1 (inc v1) (inc (inc v1)) (inc (inc (inc v1))))).map GState.t) (d8 (by rfl))<|AN);rw[d,yg hi]at r;cases y<;>exact NO r e
noncomputable def eM (x0:List GState)(c:Int):Option ((List GState)×Int):=
  if x0.length≤9223372036854775807 then(dW x0 [] 0 c).bind fun y=>match y with
   | .x0 a b=>(some (a,b))else none
theorem Aj (x0:List GState)(c:Int):Ans (eM x0 c) (fun r=>Does E 34 [.one (.s .own () 4 (x0.map GState.t)),NZ c] [(false,[.s .own () 4 (r.1.map GState.t)]),NW r.2]):=by
 unfold eM;refine NS (fun d => ?_);refine NR (fun y e => ?_);replace e:=y9 x0 [] 0 c rfl d y e;cases y with
 |x0 a b =>have f:=e;exact NN (DP Tryz.f34 [.lp (.exit 0) (lI a b)] (AL f<|AN))
inductive rc where|ret (v4:Int)|x0 (v1:Int)
def dm (v0:List GState)(v1 v5:Int):US:=stL 49 [(0,.one (.s .far () 4 (v0.map GState.t))),(1,NZ v1),(5,NZ v5)]
def eK (a:Int):US:=stL 49 [(4,NZ a)]
def lH (a:Int):US:=stL 49 [(1,NZ a)]
abbrev gk:US→Exit→US→Prop:=Round E 35 (aw Tryz.f35 0)
def y8 (v0:List GState)(v1 v5:Int):rc→Prop| .ret a=>Loops E 35 (aw Tryz.f35 0) (dm v0 v1 v5) .ret (eK a)| .x0 b=>Loops E 35 (aw Tryz.f35 0) (dm v0 v1 v5) (.exit 0) (lH b)
noncomputable def e9  : List GState→Nat→Int→Option rc|[],i,v1=>some (.x0 v1)|hd::rest,i,v1=>cond (hd.f0 != v1) (some (.ret (-1:Int))) (cond (hd.f1 != (inc v1)) (some (.ret (-1:Int))) (cond (hd.f2 != (inc (inc v1))) (some (.ret (-1:Int))) (cond (hd.f3 != (inc (inc (inc v1)))) (some (.ret (-1:Int))) (e9 rest (i+1) (inc (inc (inc (inc v1))))))))
theorem y7 (v0:List GState)(rest:List GState):∀(i:Nat)(v1:Int),(v0).drop i=rest→v0.length≤9223372036854775807→Ans (e9 rest i v1) (y8 v0 v1 (i:Int)):=by
 induction rest with
 |nil =>intro i v1 b e;have hb:=bw b;unfold e9;exact NN (NP (show gk (dm v0 v1 (i:Int)) (.exit 0) (lH v1)from RP [N2 (v0.length:Int),.b false] (ALn v0 GState.t<|AC hb<|AN)) (by intro h;cases h))
 |cons hd rest k =>
  intro i v1 b e;have hb:=a8 b;have l:=ba b e;have f:=aG b;have a:=bc b;unfold e9;apply NQ<;>intro c
  ·exact NN (NP (show gk (dm v0 v1 (i:Int)) .ret (eK (-1:Int))from RP [N2 (v0.length:Int),.b true,.row (GState.t hd),.b true] (ALn v0 GState.t<|AC hb<|AR GState.t a<|AC c<|AN)) (by intro h;cases h))
  ·apply NQ<;>intro d
   ·exact NN (NP (show gk (dm v0 v1 (i:Int)) .ret (eK (-1:Int))from RP [N2 (v0.length:Int),.b true,.row (GState.t hd),.b false,.row (GState.t hd),.b true] (ALn v0 GState.t<|AC hb<|AR GState.t a<|AC c<|AR GState.t a<|AC d<|AN)) (by intro h;cases h))
   ·apply NQ<;>intro g
    ·exact NN (NP (show gk (dm v0 v1 (i:Int)) .ret (eK (-1:Int))from RP [N2 (v0.length:Int),.b true,.row (GState.t hd),.b false,.row (GState.t hd),.b false,.row (GState.t hd),.b true] (ALn v0 GState.t<|AC hb<|AR GState.t a<|AC c<|AR GState.t a<|AC d<|AR GState.t a<|AC g<|AN)) (by intro h;cases h))
    ·apply NQ<;>intro j
     ·exact NN (NP (show gk (dm v0 v1 (i:Int)) .ret (eK (-1:Int))from RP [N2 (v0.length:Int),.b true,.row (GState.t hd),.b false,.row (GState.t hd),.b false,.row (GState.t hd),.b false,.row (GState.t hd),.b true] (ALn v0 GState.t<|AC hb<|AR GState.t a<|AC c<|AR GState.t a<|AC d<|AR GState.t a<|AC g<|AR GState.t a<|AC j<|AN)) (by intro h;cases h))
     ·exact(k (i+1) (inc (inc (inc (inc v1)))) f e).mono fun y m=>by have r:gk (dm v0 v1 (i:Int)) .normal (dm v0 (inc (inc (inc (inc v1)))) (inc (i:Int))):=RP [N2 (v0.length:Int),.b true,.row (GState.t hd),.b false,.row (GState.t hd),.b false,.row (GState.t hd),.b false,.row (GState.t hd),.b false] (ALn v0 GState.t<|AC hb<|AR GState.t a<|AC c<|AR GState.t a<|AC d<|AR GState.t a<|AC g<|AR GState.t a<|AC j<|AN);rw[l]at r;cases y<;>exact NO r m
noncomputable def eL (x0:List GState)(c:Int):Option (Int):=
  if x0.length≤9223372036854775807 then(e9 x0 0 c).bind fun y=>match y with
   | .ret a=>(some (a))
   | .x0 b=>(some (b))else none
theorem Ai (x0:List GState)(d:Int):Ans (eL x0 d) (fun r=>Does E 35 [.one (.s .far () 4 (x0.map GState.t)),NZ d] [NW r]):=by
 unfold eL;refine NS (fun e => ?_);refine NR (fun y c => ?_);replace c:=y7 x0 x0 0 d rfl e y c;cases y with
 |ret a =>have f:=c;exact NN (DP Tryz.f35 [.lp .ret (eK a)] (AL f<|AN))
 |x0 b =>have f:=c;exact NN (DP Tryz.f35 [.lp (.exit 0) (lH b)] (AL f<|AN))
noncomputable def aI (x:List GState)(k:Int):(List GState)×Int:=(eM x k).getD ([],0)
noncomputable def cI (x:List GState)(k:Int):Int:=(eL x k).getD (-1)
theorem zO (x0:List GState)(a:Int)(h:eM x0 a=some (aI x0 a)):Does E 34 [.one (.s .own () 4 (x0.map GState.t)),NZ a] [(false,[.s .own () 4 (((aI x0 a).1).map GState.t)]),NW ((aI x0 a).2)]:=by exact Aj x0 a _ h
theorem r6 (x0:List GState)(a:Int)(h:eL x0 a=some (cI x0 a)):Does E 35 [.one (.s .far () 4 (x0.map GState.t)),NZ a] [NW (cI x0 a)]:=by exact Ai x0 a _ h
theorem rh:∀(rest done:List GState)(i:Nat)(k:Int),(∀y∈rest,ae.sm y)→0≤k→k+4*(rest.length:Int)≤4611686018427387904 →
  ∃new m,dW rest done i k=some (.x0 (done++new) m)∧k≤m∧m≤k+4*(rest.length:Int)∧new.length=rest.length∧(∀y∈new,ae.sm y)∧∀j,e9 new j k=some (.x0 m)
 |[],done,i,k,_,e,_=>⟨[],k,by unfold dW;rw[OC],by omega,by simp,rfl,fun y hy=>(by cases hy),fun j=>rfl⟩
 |x::rest,done,i,k,h,e,f=>by
  have n:=h x (by simp);rw[OI]at f ⊢;have a:inc k=k+1:=eJ _ (by omega) (by omega);have b:inc (k+1)=(k+1)+1:=eJ _ (by omega) (by omega);have c:inc ((k+1)+1)=((k+1)+1)+1:=eJ _ (by omega) (by omega);have d:inc (((k+1)+1)+1)=(((k+1)+1)+1)+1:=eJ _ (by omega) (by omega);obtain⟨new,m,g1,o,g3,g4,g,l⟩:=rh rest (done++[(GState.mk k (k+1) ((k+1)+1) (((k+1)+1)+1))]) (i+1) ((((k+1)+1)+1)+1) (fun y hy=>h y (by simp[hy])) (by omega) (by omega);refine⟨(GState.mk k (k+1) ((k+1)+1) (((k+1)+1)+1))::new,m,?_,by omega,by omega,by simp[g4],?_,fun j => ?_⟩
  ·unfold dW;simp only[a,b,c,d,OH,g1,PW,PC]
  ·intro y hy;rcases OB.1 hy with rfl|hy
   ·exact trivial
   ·exact g y hy
  ·unfold e9;simp only[a,b,c,d,OH,Py,QA,Pq,Ou,Om,l]
theorem zj (l:List GState)(k:Int)(h:ae.sm l)(b:0≤k)(i:k+4200000≤4611686018427387904):eM l k=some (aI l k)∧eL (aI l k).1 k=some (cI (aI l k).1 k)∧cI (aI l k).1 k=(aI l k).2∧k≤(aI l k).2∧(aI l k).2≤k+4200000∧ae.sm (aI l k).1:=by
 have j:=h.1;obtain⟨new,m,g1,c,g3,g4,d,f⟩:=rh l [] 0 k h.2 b (by omega);have e:eM l k=some (new,m):=by unfold eM;rw[N5 (iN h),g1];rfl
 have p:aI l k=(new,m):=by unfold aI;rw[e];rfl
 have a:eL new k=some m:=by unfold eL;rw[N5 (by omega),f];rfl
 have g:cI new k=m:=by unfold cI;rw[a];rfl
 rw[p,g];exact⟨e,a,rfl,c,by omega,⟨by show new.length≤1050000;omega,d⟩⟩
noncomputable def fE (x0:GRun)(a:Int):Option (GRun×Int):=if eM x0.f3 a=some (aI x0.f3 a)then some ((GRun.mk x0.f0 x0.f1 x0.f2 ((aI x0.f3 a).1)),(aI x0.f3 a).2)else none
theorem F9 (x0:GRun)(a:Int):Ans (fE x0 a) (fun r=>Does E 13 [.agg (GRun.t .own x0),NZ a] [(true,GRun.t .own r.1),NW r.2]):=by unfold fE;refine NS (fun b => ?_);exact NN (DP Tryz.f13 [.ret [(false,[.s .own () 4 (((aI x0.f3 a).1).map GState.t)]),NW ((aI x0.f3 a).2)]] (AV (ψ:=fun k=>E.C k 34 [.one (.s .own () 4 (x0.f3.map GState.t)),NZ a]=some [(false,[.s .own () 4 (((aI x0.f3 a).1).map GState.t)]),NW ((aI x0.f3 a).2)]) (zO x0.f3 a b)<|AN))
noncomputable def gJ (x0:GRun)(a:Int):Option (Int):=if eL x0.f3 a=some (cI x0.f3 a)then cond (decide ((cI x0.f3 a)<(0:Int))) (some ((-1:Int))) (some (cI x0.f3 a))else none
theorem F7 (x0:GRun)(a:Int):Ans (gJ x0 a) (fun r=>Does E 14 [.agg (GRun.t .far x0),NZ a] [NW r]):=by
 unfold gJ;refine NS (fun b => ?_);apply NQ<;>intro c
 ·exact NN (DP Tryz.f14 [.ret [NW (cI x0.f3 a)],.b true] (AD (r6 x0.f3 a b)<|AC c<|AN))
 ·exact NN (DP Tryz.f14 [.ret [NW (cI x0.f3 a)],.b false] (AD (r6 x0.f3 a b)<|AC c<|AN))
noncomputable def ao (x:GRun)(k:Int):GRun×Int:=(fE x k).getD (x,0)
noncomputable def db (x:GRun)(k:Int):Int:=(gJ x k).getD (-1)
theorem iP (x0:GRun)(a:Int)(h:fE x0 a=some (ao x0 a)):Does E 13 [.agg (GRun.t .own x0),NZ a] [(true,GRun.t .own ((ao x0 a).1)),NW ((ao x0 a).2)]:=by exact F9 x0 a _ h
theorem ol (x0:GRun)(a:Int)(h:gJ x0 a=some (db x0 a)):Does E 14 [.agg (GRun.t .far x0),NZ a] [NW (db x0 a)]:=by exact F7 x0 a _ h
theorem vX (x:GRun)(k:Int)(h:ae.sm x)(j:0≤k)(l:k+4200000≤4611686018427387904):fE x k=some (ao x k)∧gJ (ao x k).1 k=some (db (ao x k).1 k)∧db (ao x k).1 k=(ao x k).2∧k≤(ao x k).2∧(ao x k).2≤k+4200000∧ae.sm (ao x k).1∧(GRun.mk x.f0 x.f1 x.f2 (((ao x k).1).f3))=(ao x k).1:=by
 obtain⟨b,c,d⟩:=h;have a:=zj x.f3 k d (by omega) (by omega);have f:decide ((aI x.f3 k).2<(0:Int))=false:=Oe (by omega);have e:fE x k=some ((GRun.mk x.f0 x.f1 x.f2 (aI x.f3 k).1),((aI x.f3 k).2)):=by unfold fE;simp only[a.1,a.2.1,a.2.2.1,f,OH]
 have p:ao x k=((GRun.mk x.f0 x.f1 x.f2 (aI x.f3 k).1),((aI x.f3 k).2)):=by unfold ao;rw[e];rfl
 have g:gJ (GRun.mk x.f0 x.f1 x.f2 (aI x.f3 k).1) k=some ((aI x.f3 k).2):=by unfold gJ;simp only[a.1,a.2.1,a.2.2.1,f,OH,Ou]
 have i:db (GRun.mk x.f0 x.f1 x.f2 (aI x.f3 k).1) k=((aI x.f3 k).2):=by unfold db;rw[g];rfl
 rw[p,i];exact⟨e,g,rfl,by omega,by omega,⟨b,c,a.2.2.2.2.2⟩,by first|rfl|simp only[a.1,a.2.1,a.2.2.1,f,OH]⟩
end
end Go.Proofs.YtkgecjmfkcohkaaGreatDoor.Am
