/- What the functions that mark plans and runs do. -/
import Derived.Test.YtdcbjglpdbcjpaaGreatDoorShells
namespace Go.Proofs.YtdcbjglpdbcjpaaGreatDoor.Am
open Go Go.Proofs Classical
set_option maxRecDepth 100000
set_option linter.unusedVariables false
set_option linter.unusedSimpArgs false
inductive sU where
 | x0 (v3:ByteArray)
def la (v0:Int) (v3:ByteArray):US:=stL 20 [(0,.one (tI v0)),(3,.one (tS v3))]
def mq (zv3:ByteArray):US:=stL 20 [(3,.one (tS zv3))]
abbrev sT:US→Exit→US→Prop:=Round E 55 (aw Tryz.f55 0)
def Ac (v0:Int) (v3:ByteArray):sU→Prop
 | .x0 zv3=>Loops E 55 (aw Tryz.f55 0) (la v0 v3) (.exit 0) (mq zv3)
noncomputable def fB  : Nat→Int→ByteArray→Option sU
 | 0,_,_=>none
 | n+1,v0,v3=>cond (decide (v0>(0:Int)))
  (if (strOfNums ([IntKind.wrap .u8 (IntKind.wrap .i64 ((48:Int)+(Int.tmod v0 (10:Int))))])).size+v3.size≤maxStr then fB n (IntKind.wrap .i64 (Int.tdiv v0 (10:Int))) ((strOfNums ([IntKind.wrap .u8 (IntKind.wrap .i64 ((48:Int)+(Int.tmod v0 (10:Int))))]))++v3) else none)
  (some (.x0 v3))
theorem Ab  (n:Nat):∀ (v0:Int) (v3:ByteArray),Ans (fB n v0 v3) (Ac v0 v3):=by
 induction n with
 | zero=>intros;exact Ans.none
 | succ n ih =>
  intro v0 v3
  unfold fB
  apply K0<;>intro h0
  ·refine K2 (fun h1 => ?_)
   have r:sT (la v0 v3) .normal (la (IntKind.wrap .i64 (Int.tdiv v0 (10:Int))) ((strOfNums ([IntKind.wrap .u8 (IntKind.wrap .i64 ((48:Int)+(Int.tmod v0 (10:Int))))]))++v3)):=RP [.b true,.no,.no,.val (.string (strOfNums ([IntKind.wrap .u8 (IntKind.wrap .i64 ((48:Int)+(Int.tmod v0 (10:Int))))]))),.val (.string ((strOfNums ([IntKind.wrap .u8 (IntKind.wrap .i64 ((48:Int)+(Int.tmod v0 (10:Int))))]))++v3))] (AC h0<|AC (p:=(c9 (((([IntKind.wrap .u8 (IntKind.wrap .i64 ((48:Int)+(Int.tmod v0 (10:Int))))]).map etY).drop 0).take (([IntKind.wrap .u8 (IntKind.wrap .i64 ((48:Int)+(Int.tmod v0 (10:Int))))]).map etY).length)).map strOfNums=some (strOfNums ([IntKind.wrap .u8 (IntKind.wrap .i64 ((48:Int)+(Int.tmod v0 (10:Int))))]))) (by simp only [List.take_length,List.drop_zero];exact CV)<|AC (fG (tab:=E.tab) (t:=9) h1)<|AN);exact (ih (IntKind.wrap .i64 (Int.tdiv v0 (10:Int))) ((strOfNums ([IntKind.wrap .u8 (IntKind.wrap .i64 ((48:Int)+(Int.tmod v0 (10:Int))))]))++v3)).mono fun y hy=>by cases y<;>exact KY r hy
  ·exact KX (KZ (show sT (la v0 v3) (.exit 0) (mq v3) from RP [.b false] (AC h0<|AN)) (by intro h;cases h))
noncomputable def dL (x0:Int):Option (ByteArray) :=
  cond (decide (x0≤(0:Int)))
   (some ((⟨#[109,48]⟩:ByteArray)))
   ((fB 9223372036854775808 x0 ByteArray.empty).bind fun y=>match y with
    | .x0 w0_3=>(if (⟨#[109]⟩:ByteArray).size+w0_3.size≤maxStr then some ((⟨#[109]⟩:ByteArray)++w0_3) else none))
theorem BY (x0:Int):Ans (dL x0) (fun r=>Does E 55 [.one (tI x0)] [(false,[tS r])]):=by
 unfold dL
 apply K0<;>intro h0
 ·exact KX (DP Tryz.f55 [.b true] (AC h0<|AN))
 ·refine K1 (fun y hy => ?_)
  replace hy:=Ab 9223372036854775808 x0 ByteArray.empty y hy
  cases y with
  | x0 w0_3 =>
   have h1:=hy
   refine K2 (fun h2 => ?_)
   exact KX (DP Tryz.f55 [.b false,.lp (.exit 0) (mq w0_3),.val (.string ((⟨#[109]⟩:ByteArray)++w0_3))] (AC h0<|AL h1<|AC (fG (tab:=E.tab) (t:=9) h2)<|AN))
noncomputable def ah (k:Int):ByteArray:=(dL k).getD ByteArray.empty
theorem JE:∀ (d:Nat) (n:Nat) (v:Int) (s:ByteArray),v<10 ^ d→v≤9223372036854775807→d<n→s.size+d≤100→∃ r,fB n v s=some (.x0 r)∧r.size≤s.size+d
 | d,0,v,s,h,_,hn,_=>by omega
 | 0,n+1,v,s,h,_,hn,_=>by
  unfold fB
  rw [decide_eq_false (by simp at h;omega)]
  exact ⟨s,rfl,by omega⟩
 | d+1,n+1,v,s,h,hv,hn,hs=>by
  unfold fB
  by_cases q:v>0
  ·rw [decide_eq_true q,cond_true]
   have e:Int.tdiv v 10=v/10:=Int.tdiv_eq_ediv_of_nonneg (by omega)
   rw [Int.pow_succ] at h
   have z:(strOfNums [IntKind.wrap .u8 (IntKind.wrap .i64 ((48:Int)+(Int.tmod v (10:Int))))]++s).size=s.size+1:=by rw [ByteArray.size_append];show 1+s.size=_;omega
   have z2:(strOfNums [IntKind.wrap .u8 (IntKind.wrap .i64 ((48:Int)+(Int.tmod v (10:Int))))]).size+s.size≤maxStr:=by show 1+s.size≤4611686018427387904;omega
   rw [if_pos z2,e,du _ (by omega) (by omega)]
   obtain ⟨r,h1,h2⟩:=JE d n (v/10) (strOfNums [IntKind.wrap .u8 (IntKind.wrap .i64 ((48:Int)+(Int.tmod v (10:Int))))]++s) (by omega) (by omega) (by omega) (by omega)
   exact ⟨r,h1,by omega⟩
  ·rw [decide_eq_false q]
   exact ⟨s,rfl,by omega⟩
theorem nW (k:Int) (h1:k≤4611686018427387904):dL k=some (ah k)∧am.sm (ah k):=by
 have e:∃ r,dL k=some r∧r.size≤100:=by
  unfold dL
  by_cases q:k≤0
  ·rw [decide_eq_true q]
   exact ⟨_,rfl,by decide⟩
  ·rw [decide_eq_false q,cond_false]
   obtain ⟨r,g1,g2⟩:=JE 19 9223372036854775808 k ByteArray.empty (by omega) (by omega) (by omega) (by decide)
   have z:ByteArray.empty.size=0:=rfl
   have z2:(⟨#[109]⟩:ByteArray).size=1:=rfl
   rw [g1,Option.bind_some]
   simp only
   rw [if_pos (by rw [z2];unfold maxStr;omega)]
   exact ⟨_,rfl,by rw [ByteArray.size_append,z2];omega⟩
 obtain ⟨r,g1,g2⟩:=e
 have p:ah k=r:=by unfold ah;rw [g1];rfl
 rw [p]
 exact ⟨g1,show r.size≤1050000 by omega⟩
theorem oM (x0:Int) (h:dL x0=some (ah x0)):Does E 55 [.one (tI x0)] [(false,[tS (ah x0)])]:=by
 exact BY x0 _ h
inductive o9 where
 | x0 (v0:List ByteArray) (v1:Int)
def iS (v0:List ByteArray) (v1 v5:Int):US:=stL 20 [(0,.one (.s .own () 1 (v0.map etS))),(1,.one (tI v1)),(5,.one (tI v5))]
def jV (zv0:List ByteArray) (zv1:Int):US:=stL 20 [(0,.one (.s .own () 1 (zv0.map etS))),(1,.one (tI zv1))]
abbrev o8:US→Exit→US→Prop:=Round E 56 (aw Tryz.f56 0)
def wo (v0:List ByteArray) (v1 v5:Int):o9→Prop
 | .x0 zv0 zv1=>Loops E 56 (aw Tryz.f56 0) (iS v0 v1 v5) (.exit 0) (jV zv0 zv1)
noncomputable def c8  : List ByteArray→List ByteArray→Nat→Int→Option o9
 | [],done,i,v1=>some (.x0 done v1)
 | hd::rest,done,i,v1=>if dL v1=some (ah v1) then c8 rest (done++[(ah v1)]) (i+1) (inc v1) else none
theorem wn  (rest:List ByteArray):∀ (done:List ByteArray) (i:Nat) (v1:Int),i=done.length→(done++rest).length≤9223372036854775807→Ans (c8 rest done i v1) (wo (done++rest) v1 (i:Int)):=by
 induction rest with
 | nil =>
  intro done i v1 hi hl
  rw [List.append_nil]
  have hb:=B9 hi
  unfold c8
  exact KX (KZ (show o8 (iS done v1 (i:Int)) (.exit 0) (jV done v1) from RP [.val (.int .i64 (done.length:Int)),.b false] (ALn done etS<|AC hb<|AN)) (by intro h;cases h))
 | cons hd rest ih =>
  intro done i v1 hi hl
  have hb:=yF (hd:=hd) (rest:=rest) hi
  have hw:=yG (hd:=hd) (rest:=rest) hi hl
  have hg:=Ca (hd:=hd) (rest:=rest) hi
  unfold c8
  refine K2 (fun h1 => ?_)
  exact (ih (done++[(ah v1)]) (i+1) (inc v1) (by simp [hi]) (by simpa using hl)).mono fun y hy=>by have r:o8 (iS (done++hd::rest) v1 (i:Int)) .normal (iS ((done++hd::rest).set (i:Int).toNat (ah v1)) (inc v1) (inc (i:Int))):=RP [.val (.int .i64 ((done++hd::rest).length:Int)),.b true,.ret [(false,[tS (ah v1)])],.row (etS hd),.rows (((done++hd::rest).set (i:Int).toNat (ah v1)).map etS)] (ALn (done++hd::rest) etS<|AC hb<|AD (oM v1 h1)<|AG etS hg<|AC (p:=((done++hd::rest).map etS).set (0+(i:Int).toNat) (ar (etS hd) 0 [tS (ah v1)])=((done++hd::rest).set (i:Int).toNat (ah v1)).map etS) (ed (by rfl))<|AN);rw [hw,wA hi] at r;cases y<;>exact KY r hy
noncomputable def dB (x0:List ByteArray) (x1:Int):Option ((List ByteArray)×Int) :=
  if x0.length≤9223372036854775807 then (c8 x0 [] 0 x1).bind fun y=>match y with
   | .x0 w0_0 w0_1=>(some (w0_0,w0_1)) else none
theorem xt (x0:List ByteArray) (x1:Int):Ans (dB x0 x1) (fun r=>Does E 56 [.one (.s .own () 1 (x0.map etS)),.one (tI x1)] [(false,[.s .own () 1 (r.1.map etS)]),(false,[tI r.2])]):=by
 unfold dB
 refine K2 (fun hl1 => ?_)
 refine K1 (fun y hy => ?_)
 replace hy:=wn x0 [] 0 x1 rfl hl1 y hy
 cases y with
 | x0 w0_0 w0_1 =>
  have h0:=hy
  exact KX (DP Tryz.f56 [.lp (.exit 0) (jV w0_0 w0_1)] (AL h0<|AN))
noncomputable def aC (x:List ByteArray) (k:Int):(List ByteArray)×Int:=(dB x k).getD ([],0)
theorem wL (x0:List ByteArray) (x1:Int) (h:dB x0 x1=some (aC x0 x1)):Does E 56 [.one (.s .own () 1 (x0.map etS)),.one (tI x1)] [(false,[.s .own () 1 (((aC x0 x1).1).map etS)]),(false,[tI ((aC x0 x1).2)])]:=by
 exact xt x0 x1 _ h
theorem pd:∀ (rest done:List ByteArray) (i:Nat) (k:Int),(∀ y∈rest,am.sm y)→0≤k→k+1*(rest.length:Int)≤4611686018427387904 →
  ∃ new m,c8 rest done i k=some (.x0 (done++new) m)∧k≤m∧m≤k+1*(rest.length:Int)∧new.length=rest.length∧(∀ y∈new,am.sm y)
 | [],done,i,k,_,h0,_=>⟨[],k,by unfold c8;rw [List.append_nil],by omega,by simp,rfl,fun y hy=>(by cases hy)⟩
 | x::rest,done,i,k,h,h0,h1=>by
  have hx:=h x (by simp)
  rw [List.length_cons] at h1 ⊢
  have t1:=nW k (by omega)
  have w1:inc k=k+1:=fa _ (by omega) (by omega)
  obtain ⟨new,m,g1,g2,g3,g4,g5⟩:=pd rest (done++[(ah k)]) (i+1) (k+1) (fun y hy=>h y (by simp [hy])) (by omega) (by omega)
  refine ⟨(ah k)::new,m,?_,by omega,by omega,by simp [g4],?_⟩
  ·unfold c8
   simp only [t1.1,w1,if_true,g1,List.append_assoc,List.singleton_append]
  ·intro y hy
   rcases List.mem_cons.1 hy with rfl | hy
   ·exact t1.2
   ·exact g5 y hy
theorem wu (l:List ByteArray) (k:Int) (h:am.sm l) (h0:0≤k) (h1:k+1050000≤4611686018427387904):dB l k=some (aC l k)∧True∧True∧k≤(aC l k).2∧(aC l k).2≤k+1050000∧am.sm (aC l k).1:=by
 have hl:=h.1
 obtain ⟨new,m,g1,g2,g3,g4,g5⟩:=pd l [] 0 k h.2 h0 (by omega)
 have e:dB l k=some (new,m):=by unfold dB;rw [if_pos (gW h),g1];rfl
 have p:aC l k=(new,m):=by unfold aC;rw [e];rfl
 rw [p]
 exact ⟨e,trivial,trivial,g2,by omega,⟨by show new.length≤1050000;omega,g5⟩⟩
inductive qY where
 | x0 (v0:List GTask) (v1:Int)
def kq (v0:List GTask) (v1 v5:Int):US:=stL 52 [(0,.one (.s .own () 5 (v0.map (GTask.t .own)))),(1,.one (tI v1)),(5,.one (tI v5))]
def lA (zv0:List GTask) (zv1:Int):US:=stL 52 [(0,.one (.s .own () 5 (zv0.map (GTask.t .own)))),(1,.one (tI zv1))]
abbrev qX:US→Exit→US→Prop:=Round E 30 (aw Tryz.f30 0)
def yz (v0:List GTask) (v1 v5:Int):qY→Prop
 | .x0 zv0 zv1=>Loops E 30 (aw Tryz.f30 0) (kq v0 v1 v5) (.exit 0) (lA zv0 zv1)
noncomputable def d9  : List GTask→List GTask→Nat→Int→Option qY
 | [],done,i,v1=>some (.x0 done v1)
 | hd::rest,done,i,v1=>if dL v1=some (ah v1) then if dL (inc v1)=some (ah (inc v1)) then if dB hd.f4 (inc (inc (inc (inc v1))))=some (aC hd.f4 (inc (inc (inc (inc v1))))) then d9 rest (done++[(GTask.mk (ah v1) (ah (inc v1)) (inc (inc v1)) ((Int.tmod (inc (inc (inc v1))) (3:Int))==(0:Int)) ((aC hd.f4 (inc (inc (inc (inc v1))))).1))]) (i+1) ((aC hd.f4 (inc (inc (inc (inc v1))))).2) else none else none else none
theorem yy  (rest:List GTask):∀ (done:List GTask) (i:Nat) (v1:Int),i=done.length→(done++rest).length≤9223372036854775807→Ans (d9 rest done i v1) (yz (done++rest) v1 (i:Int)):=by
 induction rest with
 | nil =>
  intro done i v1 hi hl
  rw [List.append_nil]
  have hb:=B9 hi
  unfold d9
  exact KX (KZ (show qX (kq done v1 (i:Int)) (.exit 0) (lA done v1) from RP [.val (.int .i64 (done.length:Int)),.b false] (ALn done (GTask.t .own)<|AC hb<|AN)) (by intro h;cases h))
 | cons hd rest ih =>
  intro done i v1 hi hl
  have hb:=yF (hd:=hd) (rest:=rest) hi
  have hw:=yG (hd:=hd) (rest:=rest) hi hl
  have hg:=Ca (hd:=hd) (rest:=rest) hi
  unfold d9
  refine K2 (fun h1 => ?_)
  refine K2 (fun h3 => ?_)
  refine K2 (fun h4 => ?_)
  exact (ih (done++[(GTask.mk (ah v1) (ah (inc v1)) (inc (inc v1)) ((Int.tmod (inc (inc (inc v1))) (3:Int))==(0:Int)) ((aC hd.f4 (inc (inc (inc (inc v1))))).1))]) (i+1) ((aC hd.f4 (inc (inc (inc (inc v1))))).2) (by simp [hi]) (by simpa using hl)).mono fun y hy=>by have r:qX (kq (done++hd::rest) v1 (i:Int)) .normal (kq ((done++hd::rest).set (i:Int).toNat (GTask.mk (ah v1) (ah (inc v1)) (inc (inc v1)) ((Int.tmod (inc (inc (inc v1))) (3:Int))==(0:Int)) ((aC hd.f4 (inc (inc (inc (inc v1))))).1))) ((aC hd.f4 (inc (inc (inc (inc v1))))).2) (inc (i:Int))):=RP [.val (.int .i64 ((done++hd::rest).length:Int)),.b true,.ret [(false,[tS (ah v1)])],.row ((GTask.t .own) hd),.rows (((done++hd::rest).set (i:Int).toNat (GTask.mk (ah v1) hd.f1 hd.f2 hd.f3 hd.f4)).map (GTask.t .own)),.ret [(false,[tS (ah (inc v1))])],.row ((GTask.t .own) (GTask.mk (ah v1) hd.f1 hd.f2 hd.f3 hd.f4)),.rows (((done++hd::rest).set (i:Int).toNat (GTask.mk (ah v1) (ah (inc v1)) hd.f2 hd.f3 hd.f4)).map (GTask.t .own)),.row ((GTask.t .own) (GTask.mk (ah v1) (ah (inc v1)) hd.f2 hd.f3 hd.f4)),.rows (((done++hd::rest).set (i:Int).toNat (GTask.mk (ah v1) (ah (inc v1)) (inc (inc v1)) hd.f3 hd.f4)).map (GTask.t .own)),.row ((GTask.t .own) (GTask.mk (ah v1) (ah (inc v1)) (inc (inc v1)) hd.f3 hd.f4)),.rows (((done++hd::rest).set (i:Int).toNat (GTask.mk (ah v1) (ah (inc v1)) (inc (inc v1)) ((Int.tmod (inc (inc (inc v1))) (3:Int))==(0:Int)) hd.f4)).map (GTask.t .own)),.row ((GTask.t .own) (GTask.mk (ah v1) (ah (inc v1)) (inc (inc v1)) ((Int.tmod (inc (inc (inc v1))) (3:Int))==(0:Int)) hd.f4)),.row ((GTask.t .own) (GTask.mk (ah v1) (ah (inc v1)) (inc (inc v1)) ((Int.tmod (inc (inc (inc v1))) (3:Int))==(0:Int)) hd.f4)),.ret [(false,[.s .own () 1 (((aC hd.f4 (inc (inc (inc (inc v1))))).1).map etS)]),(false,[tI ((aC hd.f4 (inc (inc (inc (inc v1))))).2)])],.row ((GTask.t .own) (GTask.mk (ah v1) (ah (inc v1)) (inc (inc v1)) ((Int.tmod (inc (inc (inc v1))) (3:Int))==(0:Int)) hd.f4)),.rows (((done++hd::rest).set (i:Int).toNat (GTask.mk (ah v1) (ah (inc v1)) (inc (inc v1)) ((Int.tmod (inc (inc (inc v1))) (3:Int))==(0:Int)) ((aC hd.f4 (inc (inc (inc (inc v1))))).1))).map (GTask.t .own))] (ALn (done++hd::rest) (GTask.t .own)<|AC hb<|AD (oM v1 h1)<|AG (GTask.t .own) hg<|AC (p:=((done++hd::rest).map (GTask.t .own)).set (0+(i:Int).toNat) (ar ((GTask.t .own) hd) 0 [tS (ah v1)])=((done++hd::rest).set (i:Int).toNat (GTask.mk (ah v1) hd.f1 hd.f2 hd.f3 hd.f4)).map (GTask.t .own)) (ed (by rfl))<|AD (oM (inc v1) h3)<|AC (p:=0≤(i:Int)∧(i:Int)<((((done++hd::rest).set (i:Int).toNat (GTask.mk (ah v1) hd.f1 hd.f2 hd.f3 hd.f4)).map (GTask.t .own)).length:Int)) (jx (co hg))<|AC (p:=(((done++hd::rest).set (i:Int).toNat (GTask.mk (ah v1) hd.f1 hd.f2 hd.f3 hd.f4)).map (GTask.t .own))[0+(i:Int).toNat]?=some ((GTask.t .own) (GTask.mk (ah v1) hd.f1 hd.f2 hd.f3 hd.f4))) (eH (co hg))<|AC (p:=(((done++hd::rest).set (i:Int).toNat (GTask.mk (ah v1) hd.f1 hd.f2 hd.f3 hd.f4)).map (GTask.t .own)).set (0+(i:Int).toNat) (ar ((GTask.t .own) (GTask.mk (ah v1) hd.f1 hd.f2 hd.f3 hd.f4)) 1 [tS (ah (inc v1))])=((done++hd::rest).set (i:Int).toNat (GTask.mk (ah v1) (ah (inc v1)) hd.f2 hd.f3 hd.f4)).map (GTask.t .own)) (kD (by rfl))<|AC (p:=0≤(i:Int)∧(i:Int)<((((done++hd::rest).set (i:Int).toNat (GTask.mk (ah v1) (ah (inc v1)) hd.f2 hd.f3 hd.f4)).map (GTask.t .own)).length:Int)) (jx (co hg))<|AC (p:=(((done++hd::rest).set (i:Int).toNat (GTask.mk (ah v1) (ah (inc v1)) hd.f2 hd.f3 hd.f4)).map (GTask.t .own))[0+(i:Int).toNat]?=some ((GTask.t .own) (GTask.mk (ah v1) (ah (inc v1)) hd.f2 hd.f3 hd.f4))) (eH (co hg))<|AC (p:=(((done++hd::rest).set (i:Int).toNat (GTask.mk (ah v1) (ah (inc v1)) hd.f2 hd.f3 hd.f4)).map (GTask.t .own)).set (0+(i:Int).toNat) (ar ((GTask.t .own) (GTask.mk (ah v1) (ah (inc v1)) hd.f2 hd.f3 hd.f4)) 2 [tI (inc (inc v1))])=((done++hd::rest).set (i:Int).toNat (GTask.mk (ah v1) (ah (inc v1)) (inc (inc v1)) hd.f3 hd.f4)).map (GTask.t .own)) (kD (by rfl))<|AC (p:=0≤(i:Int)∧(i:Int)<((((done++hd::rest).set (i:Int).toNat (GTask.mk (ah v1) (ah (inc v1)) (inc (inc v1)) hd.f3 hd.f4)).map (GTask.t .own)).length:Int)) (jx (co hg))<|AC (p:=(((done++hd::rest).set (i:Int).toNat (GTask.mk (ah v1) (ah (inc v1)) (inc (inc v1)) hd.f3 hd.f4)).map (GTask.t .own))[0+(i:Int).toNat]?=some ((GTask.t .own) (GTask.mk (ah v1) (ah (inc v1)) (inc (inc v1)) hd.f3 hd.f4))) (eH (co hg))<|AC (p:=(((done++hd::rest).set (i:Int).toNat (GTask.mk (ah v1) (ah (inc v1)) (inc (inc v1)) hd.f3 hd.f4)).map (GTask.t .own)).set (0+(i:Int).toNat) (ar ((GTask.t .own) (GTask.mk (ah v1) (ah (inc v1)) (inc (inc v1)) hd.f3 hd.f4)) 3 [tB ((Int.tmod (inc (inc (inc v1))) (3:Int))==(0:Int))])=((done++hd::rest).set (i:Int).toNat (GTask.mk (ah v1) (ah (inc v1)) (inc (inc v1)) ((Int.tmod (inc (inc (inc v1))) (3:Int))==(0:Int)) hd.f4)).map (GTask.t .own)) (kD (by rfl))<|AC (p:=0≤(i:Int)∧(i:Int)<((((done++hd::rest).set (i:Int).toNat (GTask.mk (ah v1) (ah (inc v1)) (inc (inc v1)) ((Int.tmod (inc (inc (inc v1))) (3:Int))==(0:Int)) hd.f4)).map (GTask.t .own)).length:Int)) (jx (co hg))<|AC (p:=(((done++hd::rest).set (i:Int).toNat (GTask.mk (ah v1) (ah (inc v1)) (inc (inc v1)) ((Int.tmod (inc (inc (inc v1))) (3:Int))==(0:Int)) hd.f4)).map (GTask.t .own))[0+(i:Int).toNat]?=some ((GTask.t .own) (GTask.mk (ah v1) (ah (inc v1)) (inc (inc v1)) ((Int.tmod (inc (inc (inc v1))) (3:Int))==(0:Int)) hd.f4))) (eH (co hg))<|AC (p:=(((done++hd::rest).set (i:Int).toNat (GTask.mk (ah v1) (ah (inc v1)) (inc (inc v1)) ((Int.tmod (inc (inc (inc v1))) (3:Int))==(0:Int)) hd.f4)).map (GTask.t .own))[0+(i:Int).toNat]?=some ((GTask.t .own) (GTask.mk (ah v1) (ah (inc v1)) (inc (inc v1)) ((Int.tmod (inc (inc (inc v1))) (3:Int))==(0:Int)) hd.f4))) (eH (co hg))<|AC (p:=(hd.f4.map etS).length=(hd.f4.map etS).length) rfl<|AV (ψ:=fun k=>E.C k 56 [.one (.s .own () 1 (hd.f4.map etS)),.one (tI (inc (inc (inc (inc v1)))))]=some [(false,[.s .own () 1 (((aC hd.f4 (inc (inc (inc (inc v1))))).1).map etS)]),(false,[tI ((aC hd.f4 (inc (inc (inc (inc v1))))).2)])]) (wL hd.f4 (inc (inc (inc (inc v1)))) h4)<|AC (p:=(((done++hd::rest).set (i:Int).toNat (GTask.mk (ah v1) (ah (inc v1)) (inc (inc v1)) ((Int.tmod (inc (inc (inc v1))) (3:Int))==(0:Int)) hd.f4)).map (GTask.t .own))[0+(i:Int).toNat]?=some ((GTask.t .own) (GTask.mk (ah v1) (ah (inc v1)) (inc (inc v1)) ((Int.tmod (inc (inc (inc v1))) (3:Int))==(0:Int)) hd.f4))) (eH (co hg))<|AC (p:=(((done++hd::rest).set (i:Int).toNat (GTask.mk (ah v1) (ah (inc v1)) (inc (inc v1)) ((Int.tmod (inc (inc (inc v1))) (3:Int))==(0:Int)) hd.f4)).map (GTask.t .own)).set (0+(i:Int).toNat) (((GTask.t .own) (GTask.mk (ah v1) (ah (inc v1)) (inc (inc v1)) ((Int.tmod (inc (inc (inc v1))) (3:Int))==(0:Int)) hd.f4)).set 4 (.s .own () 1 (((aC hd.f4 (inc (inc (inc (inc v1))))).1).map etS)))=((done++hd::rest).set (i:Int).toNat (GTask.mk (ah v1) (ah (inc v1)) (inc (inc v1)) ((Int.tmod (inc (inc (inc v1))) (3:Int))==(0:Int)) ((aC hd.f4 (inc (inc (inc (inc v1))))).1))).map (GTask.t .own)) (kD (by rfl))<|AN);rw [hw,wA hi] at r;cases y<;>exact KY r hy
noncomputable def eK (x0:List GTask) (x1:Int):Option ((List GTask)×Int) :=
  if x0.length≤9223372036854775807 then (d9 x0 [] 0 x1).bind fun y=>match y with
   | .x0 w0_0 w0_1=>(some (w0_0,w0_1)) else none
theorem Aa (x0:List GTask) (x1:Int):Ans (eK x0 x1) (fun r=>Does E 30 [.one (.s .own () 5 (x0.map (GTask.t .own))),.one (tI x1)] [(false,[.s .own () 5 (r.1.map (GTask.t .own))]),(false,[tI r.2])]):=by
 unfold eK
 refine K2 (fun hl1 => ?_)
 refine K1 (fun y hy => ?_)
 replace hy:=yy x0 [] 0 x1 rfl hl1 y hy
 cases y with
 | x0 w0_0 w0_1 =>
  have h0:=hy
  exact KX (DP Tryz.f30 [.lp (.exit 0) (lA w0_0 w0_1)] (AL h0<|AN))
noncomputable def aW (x:List GTask) (k:Int):(List GTask)×Int:=(eK x k).getD ([],0)
theorem zM (x0:List GTask) (x1:Int) (h:eK x0 x1=some (aW x0 x1)):Does E 30 [.one (.s .own () 5 (x0.map (GTask.t .own))),.one (tI x1)] [(false,[.s .own () 5 (((aW x0 x1).1).map (GTask.t .own))]),(false,[tI ((aW x0 x1).2)])]:=by
 exact Aa x0 x1 _ h
theorem rb:∀ (rest done:List GTask) (i:Nat) (k:Int),(∀ y∈rest,am.sm y)→0≤k→k+1050004*(rest.length:Int)≤4611686018427387904 →
  ∃ new m,d9 rest done i k=some (.x0 (done++new) m)∧k≤m∧m≤k+1050004*(rest.length:Int)∧new.length=rest.length∧(∀ y∈new,am.sm y)
 | [],done,i,k,_,h0,_=>⟨[],k,by unfold d9;rw [List.append_nil],by omega,by simp,rfl,fun y hy=>(by cases hy)⟩
 | x::rest,done,i,k,h,h0,h1=>by
  have hx:=h x (by simp)
  rw [List.length_cons] at h1 ⊢
  have t1:=nW k (by omega)
  have w1:inc k=k+1:=fa _ (by omega) (by omega)
  have t2:=nW (k+1) (by omega)
  have w2:inc (k+1)=(k+1)+1:=fa _ (by omega) (by omega)
  have w3:inc ((k+1)+1)=((k+1)+1)+1:=fa _ (by omega) (by omega)
  have w4:inc (((k+1)+1)+1)=(((k+1)+1)+1)+1:=fa _ (by omega) (by omega)
  have a5:=wu x.f4 ((((k+1)+1)+1)+1) hx.2.2 (by omega) (by omega)
  have d5:decide ((aC x.f4 ((((k+1)+1)+1)+1)).2<(0:Int))=false:=decide_eq_false (by omega)
  obtain ⟨new,m,g1,g2,g3,g4,g5⟩:=rb rest (done++[(GTask.mk (ah k) (ah (k+1)) ((k+1)+1) ((Int.tmod (((k+1)+1)+1) (3:Int))==(0:Int)) (aC x.f4 ((((k+1)+1)+1)+1)).1)]) (i+1) ((aC x.f4 ((((k+1)+1)+1)+1)).2) (fun y hy=>h y (by simp [hy])) (by omega) (by omega)
  refine ⟨(GTask.mk (ah k) (ah (k+1)) ((k+1)+1) ((Int.tmod (((k+1)+1)+1) (3:Int))==(0:Int)) (aC x.f4 ((((k+1)+1)+1)+1)).1)::new,m,?_,by omega,by omega,by simp [g4],?_⟩
  ·unfold d9
   simp only [t1.1,w1,t2.1,w2,w3,w4,a5.1,d5,if_true,g1,List.append_assoc,List.singleton_append]
  ·intro y hy
   rcases List.mem_cons.1 hy with rfl | hy
   ·exact ⟨t1.2,t2.2,a5.2.2.2.2.2⟩
   ·exact g5 y hy
theorem yH (l:List GTask) (k:Int) (h:am.sm l) (h0:0≤k) (h1:k+1102504200000≤4611686018427387904):eK l k=some (aW l k)∧True∧True∧k≤(aW l k).2∧(aW l k).2≤k+1102504200000∧am.sm (aW l k).1:=by
 have hl:=h.1
 obtain ⟨new,m,g1,g2,g3,g4,g5⟩:=rb l [] 0 k h.2 h0 (by omega)
 have e:eK l k=some (new,m):=by unfold eK;rw [if_pos (gW h),g1];rfl
 have p:aW l k=(new,m):=by unfold aW;rw [e];rfl
 rw [p]
 exact ⟨e,trivial,trivial,g2,by omega,⟨by show new.length≤1050000;omega,g5⟩⟩
noncomputable def fQ (x0:GDag) (x1:Int):Option (GDag×Int) :=
  if eK x0.f5 x1=some (aW x0.f5 x1) then some ((GDag.mk x0.f0 x0.f1 x0.f2 x0.f3 x0.f4 ((aW x0.f5 x1).1)),(aW x0.f5 x1).2) else none
theorem DL (x0:GDag) (x1:Int):Ans (fQ x0 x1) (fun r=>Does E 12 [.agg (GDag.t .own .own x0),.one (tI x1)] [(true,GDag.t .own .own r.1),(false,[tI r.2])]):=by
 unfold fQ
 refine K2 (fun h0 => ?_)
 exact KX (DP Tryz.f12 [.ret [(false,[.s .own () 5 (((aW x0.f5 x1).1).map (GTask.t .own))]),(false,[tI ((aW x0.f5 x1).2)])]] (AV (ψ:=fun k=>E.C k 30 [.one (.s .own () 5 (x0.f5.map (GTask.t .own))),.one (tI x1)]=some [(false,[.s .own () 5 (((aW x0.f5 x1).1).map (GTask.t .own))]),(false,[tI ((aW x0.f5 x1).2)])]) (zM x0.f5 x1 h0)<|AN))
noncomputable def au (x:GDag) (k:Int):GDag×Int:=(fQ x k).getD (x,0)
theorem nh (x0:GDag) (x1:Int) (h:fQ x0 x1=some (au x0 x1)):Does E 12 [.agg (GDag.t .own .own x0),.one (tI x1)] [(true,GDag.t .own .own ((au x0 x1).1)),(false,[tI ((au x0 x1).2)])]:=by
 exact DL x0 x1 _ h
theorem Ch (x:GDag) (k:Int) (h:am.sm x) (h0:0≤k) (h1:k+1102504200000≤4611686018427387904):fQ x k=some (au x k)∧True∧True∧k≤(au x k).2∧(au x k).2≤k+1102504200000∧am.sm (au x k).1∧(GDag.mk x.f0 x.f1 x.f2 x.f3 x.f4 (((au x k).1).f5))=(au x k).1:=by
 obtain ⟨hx0,hx1,hx5⟩:=h
 have a1:=yH x.f5 k hx5 (by omega) (by omega)
 have d1:decide ((aW x.f5 k).2<(0:Int))=false:=decide_eq_false (by omega)
 have e:fQ x k=some ((GDag.mk x.f0 x.f1 x.f2 x.f3 x.f4 (aW x.f5 k).1),((aW x.f5 k).2)):=by unfold fQ;simp only [a1.1,d1,if_true]
 have p:au x k=((GDag.mk x.f0 x.f1 x.f2 x.f3 x.f4 (aW x.f5 k).1),((aW x.f5 k).2)):=by unfold au;rw [e];rfl
 rw [p]
 exact ⟨e,trivial,trivial,by omega,by omega,⟨hx0,hx1,a1.2.2.2.2.2⟩,by first | rfl | simp only [a1.1,d1,if_true]⟩
inductive pS where
 | x0 (v0:List GState) (v1:Int)
def jC (v0:List GState) (v1 v5:Int):US:=stL 41 [(0,.one (.s .own () 4 (v0.map GState.t))),(1,.one (tI v1)),(5,.one (tI v5))]
def kO (zv0:List GState) (zv1:Int):US:=stL 41 [(0,.one (.s .own () 4 (zv0.map GState.t))),(1,.one (tI zv1))]
abbrev pR:US→Exit→US→Prop:=Round E 31 (aw Tryz.f31 0)
def xr (v0:List GState) (v1 v5:Int):pS→Prop
 | .x0 zv0 zv1=>Loops E 31 (aw Tryz.f31 0) (jC v0 v1 v5) (.exit 0) (kO zv0 zv1)
noncomputable def dA  : List GState→List GState→Nat→Int→Option pS
 | [],done,i,v1=>some (.x0 done v1)
 | hd::rest,done,i,v1=>dA rest (done++[(GState.mk v1 (inc v1) (inc (inc v1)) (inc (inc (inc v1))))]) (i+1) (inc (inc (inc (inc v1))))
theorem xq  (rest:List GState):∀ (done:List GState) (i:Nat) (v1:Int),i=done.length→(done++rest).length≤9223372036854775807→Ans (dA rest done i v1) (xr (done++rest) v1 (i:Int)):=by
 induction rest with
 | nil =>
  intro done i v1 hi hl
  rw [List.append_nil]
  have hb:=B9 hi
  unfold dA
  exact KX (KZ (show pR (jC done v1 (i:Int)) (.exit 0) (kO done v1) from RP [.val (.int .i64 (done.length:Int)),.b false] (ALn done GState.t<|AC hb<|AN)) (by intro h;cases h))
 | cons hd rest ih =>
  intro done i v1 hi hl
  have hb:=yF (hd:=hd) (rest:=rest) hi
  have hw:=yG (hd:=hd) (rest:=rest) hi hl
  have hg:=Ca (hd:=hd) (rest:=rest) hi
  unfold dA
  exact (ih (done++[(GState.mk v1 (inc v1) (inc (inc v1)) (inc (inc (inc v1))))]) (i+1) (inc (inc (inc (inc v1)))) (by simp [hi]) (by simpa using hl)).mono fun y hy=>by have r:pR (jC (done++hd::rest) v1 (i:Int)) .normal (jC ((done++hd::rest).set (i:Int).toNat (GState.mk v1 (inc v1) (inc (inc v1)) (inc (inc (inc v1))))) (inc (inc (inc (inc v1)))) (inc (i:Int))):=RP [.val (.int .i64 ((done++hd::rest).length:Int)),.b true,.row (GState.t hd),.rows (((done++hd::rest).set (i:Int).toNat (GState.mk v1 hd.f1 hd.f2 hd.f3)).map GState.t),.row (GState.t (GState.mk v1 hd.f1 hd.f2 hd.f3)),.rows (((done++hd::rest).set (i:Int).toNat (GState.mk v1 (inc v1) hd.f2 hd.f3)).map GState.t),.row (GState.t (GState.mk v1 (inc v1) hd.f2 hd.f3)),.rows (((done++hd::rest).set (i:Int).toNat (GState.mk v1 (inc v1) (inc (inc v1)) hd.f3)).map GState.t),.row (GState.t (GState.mk v1 (inc v1) (inc (inc v1)) hd.f3)),.rows (((done++hd::rest).set (i:Int).toNat (GState.mk v1 (inc v1) (inc (inc v1)) (inc (inc (inc v1))))).map GState.t)] (ALn (done++hd::rest) GState.t<|AC hb<|AG GState.t hg<|AC (p:=((done++hd::rest).map GState.t).set (0+(i:Int).toNat) (ar (GState.t hd) 0 [tI v1])=((done++hd::rest).set (i:Int).toNat (GState.mk v1 hd.f1 hd.f2 hd.f3)).map GState.t) (ed (by rfl))<|AC (p:=0≤(i:Int)∧(i:Int)<((((done++hd::rest).set (i:Int).toNat (GState.mk v1 hd.f1 hd.f2 hd.f3)).map GState.t).length:Int)) (jx (co hg))<|AC (p:=(((done++hd::rest).set (i:Int).toNat (GState.mk v1 hd.f1 hd.f2 hd.f3)).map GState.t)[0+(i:Int).toNat]?=some (GState.t (GState.mk v1 hd.f1 hd.f2 hd.f3))) (eH (co hg))<|AC (p:=(((done++hd::rest).set (i:Int).toNat (GState.mk v1 hd.f1 hd.f2 hd.f3)).map GState.t).set (0+(i:Int).toNat) (ar (GState.t (GState.mk v1 hd.f1 hd.f2 hd.f3)) 1 [tI (inc v1)])=((done++hd::rest).set (i:Int).toNat (GState.mk v1 (inc v1) hd.f2 hd.f3)).map GState.t) (kD (by rfl))<|AC (p:=0≤(i:Int)∧(i:Int)<((((done++hd::rest).set (i:Int).toNat (GState.mk v1 (inc v1) hd.f2 hd.f3)).map GState.t).length:Int)) (jx (co hg))<|AC (p:=(((done++hd::rest).set (i:Int).toNat (GState.mk v1 (inc v1) hd.f2 hd.f3)).map GState.t)[0+(i:Int).toNat]?=some (GState.t (GState.mk v1 (inc v1) hd.f2 hd.f3))) (eH (co hg))<|AC (p:=(((done++hd::rest).set (i:Int).toNat (GState.mk v1 (inc v1) hd.f2 hd.f3)).map GState.t).set (0+(i:Int).toNat) (ar (GState.t (GState.mk v1 (inc v1) hd.f2 hd.f3)) 2 [tI (inc (inc v1))])=((done++hd::rest).set (i:Int).toNat (GState.mk v1 (inc v1) (inc (inc v1)) hd.f3)).map GState.t) (kD (by rfl))<|AC (p:=0≤(i:Int)∧(i:Int)<((((done++hd::rest).set (i:Int).toNat (GState.mk v1 (inc v1) (inc (inc v1)) hd.f3)).map GState.t).length:Int)) (jx (co hg))<|AC (p:=(((done++hd::rest).set (i:Int).toNat (GState.mk v1 (inc v1) (inc (inc v1)) hd.f3)).map GState.t)[0+(i:Int).toNat]?=some (GState.t (GState.mk v1 (inc v1) (inc (inc v1)) hd.f3))) (eH (co hg))<|AC (p:=(((done++hd::rest).set (i:Int).toNat (GState.mk v1 (inc v1) (inc (inc v1)) hd.f3)).map GState.t).set (0+(i:Int).toNat) (ar (GState.t (GState.mk v1 (inc v1) (inc (inc v1)) hd.f3)) 3 [tI (inc (inc (inc v1)))])=((done++hd::rest).set (i:Int).toNat (GState.mk v1 (inc v1) (inc (inc v1)) (inc (inc (inc v1))))).map GState.t) (kD (by rfl))<|AN);rw [hw,wA hi] at r;cases y<;>exact KY r hy
noncomputable def d8 (x0:List GState) (x1:Int):Option ((List GState)×Int) :=
  if x0.length≤9223372036854775807 then (dA x0 [] 0 x1).bind fun y=>match y with
   | .x0 w0_0 w0_1=>(some (w0_0,w0_1)) else none
theorem yw (x0:List GState) (x1:Int):Ans (d8 x0 x1) (fun r=>Does E 31 [.one (.s .own () 4 (x0.map GState.t)),.one (tI x1)] [(false,[.s .own () 4 (r.1.map GState.t)]),(false,[tI r.2])]):=by
 unfold d8
 refine K2 (fun hl1 => ?_)
 refine K1 (fun y hy => ?_)
 replace hy:=xq x0 [] 0 x1 rfl hl1 y hy
 cases y with
 | x0 w0_0 w0_1 =>
  have h0:=hy
  exact KX (DP Tryz.f31 [.lp (.exit 0) (kO w0_0 w0_1)] (AL h0<|AN))
inductive pQ where
 | ret (v4:Int)
 | x0 (v1:Int)
def cT (v0:List GState) (v1 v5:Int):US:=stL 49 [(0,.one (.s .far () 4 (v0.map GState.t))),(1,.one (tI v1)),(5,.one (tI v5))]
def d6 (zv4:Int):US:=stL 49 [(4,.one (tI zv4))]
def kN (zv1:Int):US:=stL 49 [(1,.one (tI zv1))]
abbrev fw:US→Exit→US→Prop:=Round E 32 (aw Tryz.f32 0)
def xp (v0:List GState) (v1 v5:Int):pQ→Prop
 | .ret zv4=>Loops E 32 (aw Tryz.f32 0) (cT v0 v1 v5) .ret (d6 zv4)
 | .x0 zv1=>Loops E 32 (aw Tryz.f32 0) (cT v0 v1 v5) (.exit 0) (kN zv1)
noncomputable def ez  : List GState→Nat→Int→Option pQ
 | [],i,v1=>some (.x0 v1)
 | hd::rest,i,v1=>cond (hd.f0 != v1)
  (some (.ret (-1:Int)))
  (cond (hd.f1 != (inc v1))
   (some (.ret (-1:Int)))
   (cond (hd.f2 != (inc (inc v1)))
    (some (.ret (-1:Int)))
    (cond (hd.f3 != (inc (inc (inc v1))))
     (some (.ret (-1:Int)))
     (ez rest (i+1) (inc (inc (inc (inc v1))))))))
theorem xn (v0:List GState) (rest:List GState):∀ (i:Nat) (v1:Int),(v0).drop i=rest→v0.length≤9223372036854775807→Ans (ez rest i v1) (xp v0 v1 (i:Int)):=by
 induction rest with
 | nil =>
  intro i v1 hE hl
  have hb:=bo hE
  unfold ez
  exact KX (KZ (show fw (cT v0 v1 (i:Int)) (.exit 0) (kN v1) from RP [.val (.int .i64 (v0.length:Int)),.b false] (ALn v0 GState.t<|AC hb<|AN)) (by intro h;cases h))
 | cons hd rest ih =>
  intro i v1 hE hl
  have hb:=aY hE
  have hw:=aZ hE hl
  have hE2:=aH hE
  have hg:=bc hE
  unfold ez
  apply K0<;>intro h2
  ·exact KX (KZ (show fw (cT v0 v1 (i:Int)) .ret (d6 (-1:Int)) from RP [.val (.int .i64 (v0.length:Int)),.b true,.row (GState.t hd),.b true] (ALn v0 GState.t<|AC hb<|AR GState.t hg<|AC h2<|AN)) (by intro h;cases h))
  ·apply K0<;>intro h3
   ·exact KX (KZ (show fw (cT v0 v1 (i:Int)) .ret (d6 (-1:Int)) from RP [.val (.int .i64 (v0.length:Int)),.b true,.row (GState.t hd),.b false,.row (GState.t hd),.b true] (ALn v0 GState.t<|AC hb<|AR GState.t hg<|AC h2<|AR GState.t hg<|AC h3<|AN)) (by intro h;cases h))
   ·apply K0<;>intro h4
    ·exact KX (KZ (show fw (cT v0 v1 (i:Int)) .ret (d6 (-1:Int)) from RP [.val (.int .i64 (v0.length:Int)),.b true,.row (GState.t hd),.b false,.row (GState.t hd),.b false,.row (GState.t hd),.b true] (ALn v0 GState.t<|AC hb<|AR GState.t hg<|AC h2<|AR GState.t hg<|AC h3<|AR GState.t hg<|AC h4<|AN)) (by intro h;cases h))
    ·apply K0<;>intro h5
     ·exact KX (KZ (show fw (cT v0 v1 (i:Int)) .ret (d6 (-1:Int)) from RP [.val (.int .i64 (v0.length:Int)),.b true,.row (GState.t hd),.b false,.row (GState.t hd),.b false,.row (GState.t hd),.b false,.row (GState.t hd),.b true] (ALn v0 GState.t<|AC hb<|AR GState.t hg<|AC h2<|AR GState.t hg<|AC h3<|AR GState.t hg<|AC h4<|AR GState.t hg<|AC h5<|AN)) (by intro h;cases h))
     ·exact (ih (i+1) (inc (inc (inc (inc v1)))) hE2 hl).mono fun y hy=>by have r:fw (cT v0 v1 (i:Int)) .normal (cT v0 (inc (inc (inc (inc v1)))) (inc (i:Int))):=RP [.val (.int .i64 (v0.length:Int)),.b true,.row (GState.t hd),.b false,.row (GState.t hd),.b false,.row (GState.t hd),.b false,.row (GState.t hd),.b false] (ALn v0 GState.t<|AC hb<|AR GState.t hg<|AC h2<|AR GState.t hg<|AC h3<|AR GState.t hg<|AC h4<|AR GState.t hg<|AC h5<|AN);rw [hw] at r;cases y<;>exact KY r hy
noncomputable def d7 (x0:List GState) (x1:Int):Option (Int) :=
  if x0.length≤9223372036854775807 then (ez x0 0 x1).bind fun y=>match y with
   | .ret w0_4=>(some (w0_4))
   | .x0 w0_1=>(some (w0_1)) else none
theorem yv (x0:List GState) (x1:Int):Ans (d7 x0 x1) (fun r=>Does E 32 [.one (.s .far () 4 (x0.map GState.t)),.one (tI x1)] [(false,[tI r])]):=by
 unfold d7
 refine K2 (fun hl1 => ?_)
 refine K1 (fun y hy => ?_)
 replace hy:=xn x0 x0 0 x1 rfl hl1 y hy
 cases y with
 | ret w0_4 =>
  have h0:=hy
  exact KX (DP Tryz.f32 [.lp .ret (d6 w0_4)] (AL h0<|AN))
 | x0 w0_1 =>
  have h0:=hy
  exact KX (DP Tryz.f32 [.lp (.exit 0) (kN w0_1)] (AL h0<|AN))
noncomputable def aB (x:List GState) (k:Int):(List GState)×Int:=(d8 x k).getD ([],0)
noncomputable def cr (x:List GState) (k:Int):Int:=(d7 x k).getD (-1)
theorem xZ (x0:List GState) (x1:Int) (h:d8 x0 x1=some (aB x0 x1)):Does E 31 [.one (.s .own () 4 (x0.map GState.t)),.one (tI x1)] [(false,[.s .own () 4 (((aB x0 x1).1).map GState.t)]),(false,[tI ((aB x0 x1).2)])]:=by
 exact yw x0 x1 _ h
theorem qA (x0:List GState) (x1:Int) (h:d7 x0 x1=some (cr x0 x1)):Does E 32 [.one (.s .far () 4 (x0.map GState.t)),.one (tI x1)] [(false,[tI (cr x0 x1)])]:=by
 exact yv x0 x1 _ h
theorem pU:∀ (rest done:List GState) (i:Nat) (k:Int),(∀ y∈rest,am.sm y)→0≤k→k+4*(rest.length:Int)≤4611686018427387904 →
  ∃ new m,dA rest done i k=some (.x0 (done++new) m)∧k≤m∧m≤k+4*(rest.length:Int)∧new.length=rest.length∧(∀ y∈new,am.sm y)∧∀ j,ez new j k=some (.x0 m)
 | [],done,i,k,_,h0,_=>⟨[],k,by unfold dA;rw [List.append_nil],by omega,by simp,rfl,fun y hy=>(by cases hy),fun j=>rfl⟩
 | x::rest,done,i,k,h,h0,h1=>by
  have hx:=h x (by simp)
  rw [List.length_cons] at h1 ⊢
  have w1:inc k=k+1:=fa _ (by omega) (by omega)
  have w2:inc (k+1)=(k+1)+1:=fa _ (by omega) (by omega)
  have w3:inc ((k+1)+1)=((k+1)+1)+1:=fa _ (by omega) (by omega)
  have w4:inc (((k+1)+1)+1)=(((k+1)+1)+1)+1:=fa _ (by omega) (by omega)
  obtain ⟨new,m,g1,g2,g3,g4,g5,g6⟩:=pU rest (done++[(GState.mk k (k+1) ((k+1)+1) (((k+1)+1)+1))]) (i+1) ((((k+1)+1)+1)+1) (fun y hy=>h y (by simp [hy])) (by omega) (by omega)
  refine ⟨(GState.mk k (k+1) ((k+1)+1) (((k+1)+1)+1))::new,m,?_,by omega,by omega,by simp [g4],?_,fun j => ?_⟩
  ·unfold dA
   simp only [w1,w2,w3,w4,if_true,g1,List.append_assoc,List.singleton_append]
  ·intro y hy
   rcases List.mem_cons.1 hy with rfl | hy
   ·exact trivial
   ·exact g5 y hy
  ·unfold ez
   simp only [w1,w2,w3,w4,if_true,bne_self_eq_false,BEq.rfl,Bool.not_true,cond_false,cond_true,g6]
theorem xA (l:List GState) (k:Int) (h:am.sm l) (h0:0≤k) (h1:k+4200000≤4611686018427387904):d8 l k=some (aB l k)∧d7 (aB l k).1 k=some (cr (aB l k).1 k)∧cr (aB l k).1 k=(aB l k).2∧k≤(aB l k).2∧(aB l k).2≤k+4200000∧am.sm (aB l k).1:=by
 have hl:=h.1
 obtain ⟨new,m,g1,g2,g3,g4,g5,g6⟩:=pU l [] 0 k h.2 h0 (by omega)
 have e:d8 l k=some (new,m):=by unfold d8;rw [if_pos (gW h),g1];rfl
 have p:aB l k=(new,m):=by unfold aB;rw [e];rfl
 have e2:d7 new k=some m:=by unfold d7;rw [if_pos (by omega),g6];rfl
 have p2:cr new k=m:=by unfold cr;rw [e2];rfl
 rw [p,p2]
 exact ⟨e,e2,rfl,g2,by omega,⟨by show new.length≤1050000;omega,g5⟩⟩
noncomputable def eW (x0:GRun) (x1:Int):Option (GRun×Int) :=
  if d8 x0.f3 x1=some (aB x0.f3 x1) then some ((GRun.mk x0.f0 x0.f1 x0.f2 ((aB x0.f3 x1).1)),(aB x0.f3 x1).2) else none
theorem DM (x0:GRun) (x1:Int):Ans (eW x0 x1) (fun r=>Does E 13 [.agg (GRun.t .own x0),.one (tI x1)] [(true,GRun.t .own r.1),(false,[tI r.2])]):=by
 unfold eW
 refine K2 (fun h0 => ?_)
 exact KX (DP Tryz.f13 [.ret [(false,[.s .own () 4 (((aB x0.f3 x1).1).map GState.t)]),(false,[tI ((aB x0.f3 x1).2)])]] (AV (ψ:=fun k=>E.C k 31 [.one (.s .own () 4 (x0.f3.map GState.t)),.one (tI x1)]=some [(false,[.s .own () 4 (((aB x0.f3 x1).1).map GState.t)]),(false,[tI ((aB x0.f3 x1).2)])]) (xZ x0.f3 x1 h0)<|AN))
noncomputable def fP (x0:GRun) (x1:Int):Option (Int) :=
  if d7 x0.f3 x1=some (cr x0.f3 x1) then cond (decide ((cr x0.f3 x1)<(0:Int)))
   (some ((-1:Int)))
   (some (cr x0.f3 x1)) else none
theorem DK (x0:GRun) (x1:Int):Ans (fP x0 x1) (fun r=>Does E 14 [.agg (GRun.t .far x0),.one (tI x1)] [(false,[tI r])]):=by
 unfold fP
 refine K2 (fun h0 => ?_)
 apply K0<;>intro h1
 ·exact KX (DP Tryz.f14 [.ret [(false,[tI (cr x0.f3 x1)])],.b true] (AD (qA x0.f3 x1 h0)<|AC h1<|AN))
 ·exact KX (DP Tryz.f14 [.ret [(false,[tI (cr x0.f3 x1)])],.b false] (AD (qA x0.f3 x1 h0)<|AC h1<|AN))
noncomputable def ap (x:GRun) (k:Int):GRun×Int:=(eW x k).getD (x,0)
noncomputable def cK (x:GRun) (k:Int):Int:=(fP x k).getD (-1)
theorem gY (x0:GRun) (x1:Int) (h:eW x0 x1=some (ap x0 x1)):Does E 13 [.agg (GRun.t .own x0),.one (tI x1)] [(true,GRun.t .own ((ap x0 x1).1)),(false,[tI ((ap x0 x1).2)])]:=by
 exact DM x0 x1 _ h
theorem nf (x0:GRun) (x1:Int) (h:fP x0 x1=some (cK x0 x1)):Does E 14 [.agg (GRun.t .far x0),.one (tI x1)] [(false,[tI (cK x0 x1)])]:=by
 exact DK x0 x1 _ h
theorem uA (x:GRun) (k:Int) (h:am.sm x) (h0:0≤k) (h1:k+4200000≤4611686018427387904):eW x k=some (ap x k)∧fP (ap x k).1 k=some (cK (ap x k).1 k)∧cK (ap x k).1 k=(ap x k).2∧k≤(ap x k).2∧(ap x k).2≤k+4200000∧am.sm (ap x k).1∧(GRun.mk x.f0 x.f1 x.f2 (((ap x k).1).f3))=(ap x k).1:=by
 obtain ⟨hx0,hx1,hx3⟩:=h
 have a1:=xA x.f3 k hx3 (by omega) (by omega)
 have d1:decide ((aB x.f3 k).2<(0:Int))=false:=decide_eq_false (by omega)
 have e:eW x k=some ((GRun.mk x.f0 x.f1 x.f2 (aB x.f3 k).1),((aB x.f3 k).2)):=by unfold eW;simp only [a1.1,a1.2.1,a1.2.2.1,d1,if_true]
 have p:ap x k=((GRun.mk x.f0 x.f1 x.f2 (aB x.f3 k).1),((aB x.f3 k).2)):=by unfold ap;rw [e];rfl
 have e2:fP (GRun.mk x.f0 x.f1 x.f2 (aB x.f3 k).1) k=some ((aB x.f3 k).2):=by unfold fP;simp only [a1.1,a1.2.1,a1.2.2.1,d1,if_true,cond_false]
 have p2:cK (GRun.mk x.f0 x.f1 x.f2 (aB x.f3 k).1) k=((aB x.f3 k).2):=by unfold cK;rw [e2];rfl
 rw [p,p2]
 exact ⟨e,e2,rfl,by omega,by omega,⟨hx0,hx1,a1.2.2.2.2.2⟩,by first | rfl | simp only [a1.1,a1.2.1,a1.2.2.1,d1,if_true]⟩
end Go.Proofs.YtdcbjglpdbcjpaaGreatDoor.Am
