/- What the functions that mark plans and runs do. -/
import Derived.Test.YtgaiiephdjllkaaGreatDoorShells
namespace Go.Proofs.YtgaiiephdjllkaaGreatDoor.Am
open Go Go.Proofs Classical
set_option maxRecDepth 100000
set_option linter.unusedVariables false
set_option linter.unusedSimpArgs false
inductive rA where
 | x0 (v3:ByteArray)
def kC (v0:Int) (v3:ByteArray):US:=stL 20 [(0,.one (tI v0)),(3,.one (tS v3))]
def lI (zv3:ByteArray):US:=stL 20 [(3,.one (tS zv3))]
abbrev rz:US→Exit→US→Prop:=Round E 58 (av Tryz.f58 0)
def yu (v0:Int) (v3:ByteArray):rA→Prop
 | .x0 zv3=>Loops E 58 (av Tryz.f58 0) (kC v0 v3) (.exit 0) (lI zv3)
noncomputable def fc  : Nat→Int→ByteArray→Option rA
 | 0,_,_=>none
 | n+1,v0,v3=>cond (decide (v0>(0:Int)))
  (if (strOfNums ([IntKind.wrap .u8 (IntKind.wrap .i64 ((48:Int)+(Int.tmod v0 (10:Int))))])).size+v3.size≤maxStr then fc n (IntKind.wrap .i64 (Int.tdiv v0 (10:Int))) ((strOfNums ([IntKind.wrap .u8 (IntKind.wrap .i64 ((48:Int)+(Int.tmod v0 (10:Int))))]))++v3) else none)
  (some (.x0 v3))
theorem yt  (n:Nat):∀ (v0:Int) (v3:ByteArray),Ans (fc n v0 v3) (yu v0 v3):=by
 induction n with
 | zero=>intros;exact Ans.none
 | succ n ih =>
  intro v0 v3
  unfold fc
  apply JJ<;>intro h0
  ·refine JL (fun h1 => ?_)
   have r:rz (kC v0 v3) .normal (kC (IntKind.wrap .i64 (Int.tdiv v0 (10:Int))) ((strOfNums ([IntKind.wrap .u8 (IntKind.wrap .i64 ((48:Int)+(Int.tmod v0 (10:Int))))]))++v3)):=RP [.b true,.no,.no,.val (.string (strOfNums ([IntKind.wrap .u8 (IntKind.wrap .i64 ((48:Int)+(Int.tmod v0 (10:Int))))]))),.val (.string ((strOfNums ([IntKind.wrap .u8 (IntKind.wrap .i64 ((48:Int)+(Int.tmod v0 (10:Int))))]))++v3))] (AC h0<|AC (p:=(cU (((([IntKind.wrap .u8 (IntKind.wrap .i64 ((48:Int)+(Int.tmod v0 (10:Int))))]).map etY).drop 0).take (([IntKind.wrap .u8 (IntKind.wrap .i64 ((48:Int)+(Int.tmod v0 (10:Int))))]).map etY).length)).map strOfNums=some (strOfNums ([IntKind.wrap .u8 (IntKind.wrap .i64 ((48:Int)+(Int.tmod v0 (10:Int))))]))) (by simp only [List.take_length,List.drop_zero];exact Bm)<|AC (fh (tab:=E.tab) (t:=9) h1)<|AN);exact (ih (IntKind.wrap .i64 (Int.tdiv v0 (10:Int))) ((strOfNums ([IntKind.wrap .u8 (IntKind.wrap .i64 ((48:Int)+(Int.tmod v0 (10:Int))))]))++v3)).mono fun y hy=>by cases y<;>exact JH r hy
  ·exact JG (JI (show rz (kC v0 v3) (.exit 0) (lI v3) from RP [.b false] (AC h0<|AN)) (by intro h;cases h))
noncomputable def dx (x0:Int):Option (ByteArray) :=
  cond (decide (x0≤(0:Int)))
   (some ((⟨#[109,48]⟩:ByteArray)))
   ((fc 9223372036854775808 x0 ByteArray.empty).bind fun y=>match y with
    | .x0 w0_3=>(if (⟨#[109]⟩:ByteArray).size+w0_3.size≤maxStr then some ((⟨#[109]⟩:ByteArray)++w0_3) else none))
theorem Aj (x0:Int):Ans (dx x0) (fun r=>Does E 58 [.one (tI x0)] [(false,[tS r])]):=by
 unfold dx
 apply JJ<;>intro h0
 ·exact JG (DP Tryz.f58 [.b true] (AC h0<|AN))
 ·refine JK (fun y hy => ?_)
  replace hy:=yt 9223372036854775808 x0 ByteArray.empty y hy
  cases y with
  | x0 w0_3 =>
   have h1:=hy
   refine JL (fun h2 => ?_)
   exact JG (DP Tryz.f58 [.b false,.lp (.exit 0) (lI w0_3),.val (.string ((⟨#[109]⟩:ByteArray)++w0_3))] (AC h0<|AL h1<|AC (fh (tab:=E.tab) (t:=9) h2)<|AN))
noncomputable def ah (k:Int):ByteArray:=(dx k).getD ByteArray.empty
theorem HH:∀ (d:Nat) (n:Nat) (v:Int) (s:ByteArray),v<10 ^ d→v≤9223372036854775807→d<n→s.size+d≤100→∃ r,fc n v s=some (.x0 r)∧r.size≤s.size+d
 | d,0,v,s,h,_,hn,_=>by omega
 | 0,n+1,v,s,h,_,hn,_=>by
  unfold fc
  rw [decide_eq_false (by simp at h;omega)]
  exact ⟨s,rfl,by omega⟩
 | d+1,n+1,v,s,h,hv,hn,hs=>by
  unfold fc
  by_cases q:v>0
  ·rw [decide_eq_true q,cond_true]
   have e:Int.tdiv v 10=v/10:=Int.tdiv_eq_ediv_of_nonneg (by omega)
   rw [Int.pow_succ] at h
   have z:(strOfNums [IntKind.wrap .u8 (IntKind.wrap .i64 ((48:Int)+(Int.tmod v (10:Int))))]++s).size=s.size+1:=by rw [ByteArray.size_append];show 1+s.size=_;omega
   have z2:(strOfNums [IntKind.wrap .u8 (IntKind.wrap .i64 ((48:Int)+(Int.tmod v (10:Int))))]).size+s.size≤maxStr:=by show 1+s.size≤4611686018427387904;omega
   rw [if_pos z2,e,de _ (by omega) (by omega)]
   obtain ⟨r,h1,h2⟩:=HH d n (v/10) (strOfNums [IntKind.wrap .u8 (IntKind.wrap .i64 ((48:Int)+(Int.tmod v (10:Int))))]++s) (by omega) (by omega) (by omega) (by omega)
   exact ⟨r,h1,by omega⟩
  ·rw [decide_eq_false q]
   exact ⟨s,rfl,by omega⟩
theorem nb (k:Int) (h1:k≤4611686018427387904):dx k=some (ah k)∧ak.sm (ah k):=by
 have e:∃ r,dx k=some r∧r.size≤100:=by
  unfold dx
  by_cases q:k≤0
  ·rw [decide_eq_true q]
   exact ⟨_,rfl,by decide⟩
  ·rw [decide_eq_false q,cond_false]
   obtain ⟨r,g1,g2⟩:=HH 19 9223372036854775808 k ByteArray.empty (by omega) (by omega) (by omega) (by decide)
   have z:ByteArray.empty.size=0:=rfl
   have z2:(⟨#[109]⟩:ByteArray).size=1:=rfl
   rw [g1,Option.bind_some]
   simp only
   rw [if_pos (by rw [z2];unfold maxStr;omega)]
   exact ⟨_,rfl,by rw [ByteArray.size_append,z2];omega⟩
 obtain ⟨r,g1,g2⟩:=e
 have p:ah k=r:=by unfold ah;rw [g1];rfl
 rw [p]
 exact ⟨g1,show r.size≤1050000 by omega⟩
theorem nL (x0:Int) (h:dx x0=some (ah x0)):Does E 58 [.one (tI x0)] [(false,[tS (ah x0)])]:=by
 exact Aj x0 _ h
inductive of where
 | x0 (v0:List ByteArray) (v1:Int)
def il (v0:List ByteArray) (v1 v5:Int):US:=stL 20 [(0,.one (.s .own () 1 (v0.map etS))),(1,.one (tI v1)),(5,.one (tI v5))]
def jn (zv0:List ByteArray) (zv1:Int):US:=stL 20 [(0,.one (.s .own () 1 (zv0.map etS))),(1,.one (tI zv1))]
abbrev oe:US→Exit→US→Prop:=Round E 59 (av Tryz.f59 0)
def uN (v0:List ByteArray) (v1 v5:Int):of→Prop
 | .x0 zv0 zv1=>Loops E 59 (av Tryz.f59 0) (il v0 v1 v5) (.exit 0) (jn zv0 zv1)
noncomputable def cT  : List ByteArray→List ByteArray→Nat→Int→Option of
 | [],done,i,v1=>some (.x0 done v1)
 | hd::rest,done,i,v1=>if dx v1=some (ah v1) then cT rest (done++[(ah v1)]) (i+1) (inc v1) else none
theorem uM  (rest:List ByteArray):∀ (done:List ByteArray) (i:Nat) (v1:Int),i=done.length→(done++rest).length≤9223372036854775807→Ans (cT rest done i v1) (uN (done++rest) v1 (i:Int)):=by
 induction rest with
 | nil =>
  intro done i v1 hi hl
  rw [List.append_nil]
  have hb:=As hi
  unfold cT
  exact JG (JI (show oe (il done v1 (i:Int)) (.exit 0) (jn done v1) from RP [.val (.int .i64 (done.length:Int)),.b false] (ALn done etS<|AC hb<|AN)) (by intro h;cases h))
 | cons hd rest ih =>
  intro done i v1 hi hl
  have hb:=w9 (hd:=hd) (rest:=rest) hi
  have hw:=xa (hd:=hd) (rest:=rest) hi hl
  have hg:=At (hd:=hd) (rest:=rest) hi
  unfold cT
  refine JL (fun h1 => ?_)
  exact (ih (done++[(ah v1)]) (i+1) (inc v1) (by simp [hi]) (by simpa using hl)).mono fun y hy=>by have r:oe (il (done++hd::rest) v1 (i:Int)) .normal (il ((done++hd::rest).set (i:Int).toNat (ah v1)) (inc v1) (inc (i:Int))):=RP [.val (.int .i64 ((done++hd::rest).length:Int)),.b true,.ret [(false,[tS (ah v1)])],.row (etS hd),.rows (((done++hd::rest).set (i:Int).toNat (ah v1)).map etS)] (ALn (done++hd::rest) etS<|AC hb<|AD (nL v1 h1)<|AG etS hg<|AC (p:=((done++hd::rest).map etS).set (0+(i:Int).toNat) (ao (etS hd) 0 [tS (ah v1)])=((done++hd::rest).set (i:Int).toNat (ah v1)).map etS) (eQ (by rfl))<|AN);rw [hw,uZ hi] at r;cases y<;>exact JH r hy
noncomputable def dp (x0:List ByteArray) (x1:Int):Option ((List ByteArray)×Int) :=
  if x0.length≤9223372036854775807 then (cT x0 [] 0 x1).bind fun y=>match y with
   | .x0 w0_0 w0_1=>(some (w0_0,w0_1)) else none
theorem vO (x0:List ByteArray) (x1:Int):Ans (dp x0 x1) (fun r=>Does E 59 [.one (.s .own () 1 (x0.map etS)),.one (tI x1)] [(false,[.s .own () 1 (r.1.map etS)]),(false,[tI r.2])]):=by
 unfold dp
 refine JL (fun hl1 => ?_)
 refine JK (fun y hy => ?_)
 replace hy:=uM x0 [] 0 x1 rfl hl1 y hy
 cases y with
 | x0 w0_0 w0_1 =>
  have h0:=hy
  exact JG (DP Tryz.f59 [.lp (.exit 0) (jn w0_0 w0_1)] (AL h0<|AN))
noncomputable def az (x:List ByteArray) (k:Int):(List ByteArray)×Int:=(dp x k).getD ([],0)
theorem vd (x0:List ByteArray) (x1:Int) (h:dp x0 x1=some (az x0 x1)):Does E 59 [.one (.s .own () 1 (x0.map etS)),.one (tI x1)] [(false,[.s .own () 1 (((az x0 x1).1).map etS)]),(false,[tI ((az x0 x1).2)])]:=by
 exact vO x0 x1 _ h
theorem oh:∀ (rest done:List ByteArray) (i:Nat) (k:Int),(∀ y∈rest,ak.sm y)→0≤k→k+1*(rest.length:Int)≤4611686018427387904 →
  ∃ new m,cT rest done i k=some (.x0 (done++new) m)∧k≤m∧m≤k+1*(rest.length:Int)∧new.length=rest.length∧(∀ y∈new,ak.sm y)
 | [],done,i,k,_,h0,_=>⟨[],k,by unfold cT;rw [List.append_nil],by omega,by simp,rfl,fun y hy=>(by cases hy)⟩
 | x::rest,done,i,k,h,h0,h1=>by
  have hx:=h x (by simp)
  rw [List.length_cons] at h1 ⊢
  have t1:=nb k (by omega)
  have w1:inc k=k+1:=fg _ (by omega) (by omega)
  obtain ⟨new,m,g1,g2,g3,g4,g5⟩:=oh rest (done++[(ah k)]) (i+1) (k+1) (fun y hy=>h y (by simp [hy])) (by omega) (by omega)
  refine ⟨(ah k)::new,m,?_,by omega,by omega,by simp [g4],?_⟩
  ·unfold cT
   simp only [t1.1,w1,if_true,g1,List.append_assoc,List.singleton_append]
  ·intro y hy
   rcases List.mem_cons.1 hy with rfl | hy
   ·exact t1.2
   ·exact g5 y hy
theorem uR (l:List ByteArray) (k:Int) (h:ak.sm l) (h0:0≤k) (h1:k+1050000≤4611686018427387904):dp l k=some (az l k)∧True∧True∧k≤(az l k).2∧(az l k).2≤k+1050000∧ak.sm (az l k).1:=by
 have hl:=h.1
 obtain ⟨new,m,g1,g2,g3,g4,g5⟩:=oh l [] 0 k h.2 h0 (by omega)
 have e:dp l k=some (new,m):=by unfold dp;rw [if_pos (hZ h),g1];rfl
 have p:az l k=(new,m):=by unfold az;rw [e];rfl
 rw [p]
 exact ⟨e,trivial,trivial,g2,by omega,⟨by show new.length≤1050000;omega,g5⟩⟩
inductive qa where
 | x0 (v0:List GTask) (v1:Int)
def jI (v0:List GTask) (v1 v5:Int):US:=stL 52 [(0,.one (.s .own () 5 (v0.map (GTask.t .own)))),(1,.one (tI v1)),(5,.one (tI v5))]
def kT (zv0:List GTask) (zv1:Int):US:=stL 52 [(0,.one (.s .own () 5 (zv0.map (GTask.t .own)))),(1,.one (tI zv1))]
abbrev p9:US→Exit→US→Prop:=Round E 32 (av Tryz.f32 0)
def wX (v0:List GTask) (v1 v5:Int):qa→Prop
 | .x0 zv0 zv1=>Loops E 32 (av Tryz.f32 0) (jI v0 v1 v5) (.exit 0) (kT zv0 zv1)
noncomputable def dR  : List GTask→List GTask→Nat→Int→Option qa
 | [],done,i,v1=>some (.x0 done v1)
 | hd::rest,done,i,v1=>if dx v1=some (ah v1) then if dx (inc v1)=some (ah (inc v1)) then if dp hd.f4 (inc (inc (inc (inc v1))))=some (az hd.f4 (inc (inc (inc (inc v1))))) then dR rest (done++[(GTask.mk (ah v1) (ah (inc v1)) (inc (inc v1)) ((Int.tmod (inc (inc (inc v1))) (3:Int))==(0:Int)) ((az hd.f4 (inc (inc (inc (inc v1))))).1))]) (i+1) ((az hd.f4 (inc (inc (inc (inc v1))))).2) else none else none else none
theorem wW  (rest:List GTask):∀ (done:List GTask) (i:Nat) (v1:Int),i=done.length→(done++rest).length≤9223372036854775807→Ans (dR rest done i v1) (wX (done++rest) v1 (i:Int)):=by
 induction rest with
 | nil =>
  intro done i v1 hi hl
  rw [List.append_nil]
  have hb:=As hi
  unfold dR
  exact JG (JI (show p9 (jI done v1 (i:Int)) (.exit 0) (kT done v1) from RP [.val (.int .i64 (done.length:Int)),.b false] (ALn done (GTask.t .own)<|AC hb<|AN)) (by intro h;cases h))
 | cons hd rest ih =>
  intro done i v1 hi hl
  have hb:=w9 (hd:=hd) (rest:=rest) hi
  have hw:=xa (hd:=hd) (rest:=rest) hi hl
  have hg:=At (hd:=hd) (rest:=rest) hi
  unfold dR
  refine JL (fun h1 => ?_)
  refine JL (fun h3 => ?_)
  refine JL (fun h4 => ?_)
  exact (ih (done++[(GTask.mk (ah v1) (ah (inc v1)) (inc (inc v1)) ((Int.tmod (inc (inc (inc v1))) (3:Int))==(0:Int)) ((az hd.f4 (inc (inc (inc (inc v1))))).1))]) (i+1) ((az hd.f4 (inc (inc (inc (inc v1))))).2) (by simp [hi]) (by simpa using hl)).mono fun y hy=>by have r:p9 (jI (done++hd::rest) v1 (i:Int)) .normal (jI ((done++hd::rest).set (i:Int).toNat (GTask.mk (ah v1) (ah (inc v1)) (inc (inc v1)) ((Int.tmod (inc (inc (inc v1))) (3:Int))==(0:Int)) ((az hd.f4 (inc (inc (inc (inc v1))))).1))) ((az hd.f4 (inc (inc (inc (inc v1))))).2) (inc (i:Int))):=RP [.val (.int .i64 ((done++hd::rest).length:Int)),.b true,.ret [(false,[tS (ah v1)])],.row ((GTask.t .own) hd),.rows (((done++hd::rest).set (i:Int).toNat (GTask.mk (ah v1) hd.f1 hd.f2 hd.f3 hd.f4)).map (GTask.t .own)),.ret [(false,[tS (ah (inc v1))])],.row ((GTask.t .own) (GTask.mk (ah v1) hd.f1 hd.f2 hd.f3 hd.f4)),.rows (((done++hd::rest).set (i:Int).toNat (GTask.mk (ah v1) (ah (inc v1)) hd.f2 hd.f3 hd.f4)).map (GTask.t .own)),.row ((GTask.t .own) (GTask.mk (ah v1) (ah (inc v1)) hd.f2 hd.f3 hd.f4)),.rows (((done++hd::rest).set (i:Int).toNat (GTask.mk (ah v1) (ah (inc v1)) (inc (inc v1)) hd.f3 hd.f4)).map (GTask.t .own)),.row ((GTask.t .own) (GTask.mk (ah v1) (ah (inc v1)) (inc (inc v1)) hd.f3 hd.f4)),.rows (((done++hd::rest).set (i:Int).toNat (GTask.mk (ah v1) (ah (inc v1)) (inc (inc v1)) ((Int.tmod (inc (inc (inc v1))) (3:Int))==(0:Int)) hd.f4)).map (GTask.t .own)),.row ((GTask.t .own) (GTask.mk (ah v1) (ah (inc v1)) (inc (inc v1)) ((Int.tmod (inc (inc (inc v1))) (3:Int))==(0:Int)) hd.f4)),.row ((GTask.t .own) (GTask.mk (ah v1) (ah (inc v1)) (inc (inc v1)) ((Int.tmod (inc (inc (inc v1))) (3:Int))==(0:Int)) hd.f4)),.ret [(false,[.s .own () 1 (((az hd.f4 (inc (inc (inc (inc v1))))).1).map etS)]),(false,[tI ((az hd.f4 (inc (inc (inc (inc v1))))).2)])],.row ((GTask.t .own) (GTask.mk (ah v1) (ah (inc v1)) (inc (inc v1)) ((Int.tmod (inc (inc (inc v1))) (3:Int))==(0:Int)) hd.f4)),.rows (((done++hd::rest).set (i:Int).toNat (GTask.mk (ah v1) (ah (inc v1)) (inc (inc v1)) ((Int.tmod (inc (inc (inc v1))) (3:Int))==(0:Int)) ((az hd.f4 (inc (inc (inc (inc v1))))).1))).map (GTask.t .own))] (ALn (done++hd::rest) (GTask.t .own)<|AC hb<|AD (nL v1 h1)<|AG (GTask.t .own) hg<|AC (p:=((done++hd::rest).map (GTask.t .own)).set (0+(i:Int).toNat) (ao ((GTask.t .own) hd) 0 [tS (ah v1)])=((done++hd::rest).set (i:Int).toNat (GTask.mk (ah v1) hd.f1 hd.f2 hd.f3 hd.f4)).map (GTask.t .own)) (eQ (by rfl))<|AD (nL (inc v1) h3)<|AC (p:=0≤(i:Int)∧(i:Int)<((((done++hd::rest).set (i:Int).toNat (GTask.mk (ah v1) hd.f1 hd.f2 hd.f3 hd.f4)).map (GTask.t .own)).length:Int)) (kz (dh hg))<|AC (p:=(((done++hd::rest).set (i:Int).toNat (GTask.mk (ah v1) hd.f1 hd.f2 hd.f3 hd.f4)).map (GTask.t .own))[0+(i:Int).toNat]?=some ((GTask.t .own) (GTask.mk (ah v1) hd.f1 hd.f2 hd.f3 hd.f4))) (eY (dh hg))<|AC (p:=(((done++hd::rest).set (i:Int).toNat (GTask.mk (ah v1) hd.f1 hd.f2 hd.f3 hd.f4)).map (GTask.t .own)).set (0+(i:Int).toNat) (ao ((GTask.t .own) (GTask.mk (ah v1) hd.f1 hd.f2 hd.f3 hd.f4)) 1 [tS (ah (inc v1))])=((done++hd::rest).set (i:Int).toNat (GTask.mk (ah v1) (ah (inc v1)) hd.f2 hd.f3 hd.f4)).map (GTask.t .own)) (mr (by rfl))<|AC (p:=0≤(i:Int)∧(i:Int)<((((done++hd::rest).set (i:Int).toNat (GTask.mk (ah v1) (ah (inc v1)) hd.f2 hd.f3 hd.f4)).map (GTask.t .own)).length:Int)) (kz (dh hg))<|AC (p:=(((done++hd::rest).set (i:Int).toNat (GTask.mk (ah v1) (ah (inc v1)) hd.f2 hd.f3 hd.f4)).map (GTask.t .own))[0+(i:Int).toNat]?=some ((GTask.t .own) (GTask.mk (ah v1) (ah (inc v1)) hd.f2 hd.f3 hd.f4))) (eY (dh hg))<|AC (p:=(((done++hd::rest).set (i:Int).toNat (GTask.mk (ah v1) (ah (inc v1)) hd.f2 hd.f3 hd.f4)).map (GTask.t .own)).set (0+(i:Int).toNat) (ao ((GTask.t .own) (GTask.mk (ah v1) (ah (inc v1)) hd.f2 hd.f3 hd.f4)) 2 [tI (inc (inc v1))])=((done++hd::rest).set (i:Int).toNat (GTask.mk (ah v1) (ah (inc v1)) (inc (inc v1)) hd.f3 hd.f4)).map (GTask.t .own)) (mr (by rfl))<|AC (p:=0≤(i:Int)∧(i:Int)<((((done++hd::rest).set (i:Int).toNat (GTask.mk (ah v1) (ah (inc v1)) (inc (inc v1)) hd.f3 hd.f4)).map (GTask.t .own)).length:Int)) (kz (dh hg))<|AC (p:=(((done++hd::rest).set (i:Int).toNat (GTask.mk (ah v1) (ah (inc v1)) (inc (inc v1)) hd.f3 hd.f4)).map (GTask.t .own))[0+(i:Int).toNat]?=some ((GTask.t .own) (GTask.mk (ah v1) (ah (inc v1)) (inc (inc v1)) hd.f3 hd.f4))) (eY (dh hg))<|AC (p:=(((done++hd::rest).set (i:Int).toNat (GTask.mk (ah v1) (ah (inc v1)) (inc (inc v1)) hd.f3 hd.f4)).map (GTask.t .own)).set (0+(i:Int).toNat) (ao ((GTask.t .own) (GTask.mk (ah v1) (ah (inc v1)) (inc (inc v1)) hd.f3 hd.f4)) 3 [tB ((Int.tmod (inc (inc (inc v1))) (3:Int))==(0:Int))])=((done++hd::rest).set (i:Int).toNat (GTask.mk (ah v1) (ah (inc v1)) (inc (inc v1)) ((Int.tmod (inc (inc (inc v1))) (3:Int))==(0:Int)) hd.f4)).map (GTask.t .own)) (mr (by rfl))<|AC (p:=0≤(i:Int)∧(i:Int)<((((done++hd::rest).set (i:Int).toNat (GTask.mk (ah v1) (ah (inc v1)) (inc (inc v1)) ((Int.tmod (inc (inc (inc v1))) (3:Int))==(0:Int)) hd.f4)).map (GTask.t .own)).length:Int)) (kz (dh hg))<|AC (p:=(((done++hd::rest).set (i:Int).toNat (GTask.mk (ah v1) (ah (inc v1)) (inc (inc v1)) ((Int.tmod (inc (inc (inc v1))) (3:Int))==(0:Int)) hd.f4)).map (GTask.t .own))[0+(i:Int).toNat]?=some ((GTask.t .own) (GTask.mk (ah v1) (ah (inc v1)) (inc (inc v1)) ((Int.tmod (inc (inc (inc v1))) (3:Int))==(0:Int)) hd.f4))) (eY (dh hg))<|AC (p:=(((done++hd::rest).set (i:Int).toNat (GTask.mk (ah v1) (ah (inc v1)) (inc (inc v1)) ((Int.tmod (inc (inc (inc v1))) (3:Int))==(0:Int)) hd.f4)).map (GTask.t .own))[0+(i:Int).toNat]?=some ((GTask.t .own) (GTask.mk (ah v1) (ah (inc v1)) (inc (inc v1)) ((Int.tmod (inc (inc (inc v1))) (3:Int))==(0:Int)) hd.f4))) (eY (dh hg))<|AC (p:=(hd.f4.map etS).length=(hd.f4.map etS).length) rfl<|AV (ψ:=fun k=>E.C k 59 [.one (.s .own () 1 (hd.f4.map etS)),.one (tI (inc (inc (inc (inc v1)))))]=some [(false,[.s .own () 1 (((az hd.f4 (inc (inc (inc (inc v1))))).1).map etS)]),(false,[tI ((az hd.f4 (inc (inc (inc (inc v1))))).2)])]) (vd hd.f4 (inc (inc (inc (inc v1)))) h4)<|AC (p:=(((done++hd::rest).set (i:Int).toNat (GTask.mk (ah v1) (ah (inc v1)) (inc (inc v1)) ((Int.tmod (inc (inc (inc v1))) (3:Int))==(0:Int)) hd.f4)).map (GTask.t .own))[0+(i:Int).toNat]?=some ((GTask.t .own) (GTask.mk (ah v1) (ah (inc v1)) (inc (inc v1)) ((Int.tmod (inc (inc (inc v1))) (3:Int))==(0:Int)) hd.f4))) (eY (dh hg))<|AC (p:=(((done++hd::rest).set (i:Int).toNat (GTask.mk (ah v1) (ah (inc v1)) (inc (inc v1)) ((Int.tmod (inc (inc (inc v1))) (3:Int))==(0:Int)) hd.f4)).map (GTask.t .own)).set (0+(i:Int).toNat) (((GTask.t .own) (GTask.mk (ah v1) (ah (inc v1)) (inc (inc v1)) ((Int.tmod (inc (inc (inc v1))) (3:Int))==(0:Int)) hd.f4)).set 4 (.s .own () 1 (((az hd.f4 (inc (inc (inc (inc v1))))).1).map etS)))=((done++hd::rest).set (i:Int).toNat (GTask.mk (ah v1) (ah (inc v1)) (inc (inc v1)) ((Int.tmod (inc (inc (inc v1))) (3:Int))==(0:Int)) ((az hd.f4 (inc (inc (inc (inc v1))))).1))).map (GTask.t .own)) (mr (by rfl))<|AN);rw [hw,uZ hi] at r;cases y<;>exact JH r hy
noncomputable def ek (x0:List GTask) (x1:Int):Option ((List GTask)×Int) :=
  if x0.length≤9223372036854775807 then (dR x0 [] 0 x1).bind fun y=>match y with
   | .x0 w0_0 w0_1=>(some (w0_0,w0_1)) else none
theorem yr (x0:List GTask) (x1:Int):Ans (ek x0 x1) (fun r=>Does E 32 [.one (.s .own () 5 (x0.map (GTask.t .own))),.one (tI x1)] [(false,[.s .own () 5 (r.1.map (GTask.t .own))]),(false,[tI r.2])]):=by
 unfold ek
 refine JL (fun hl1 => ?_)
 refine JK (fun y hy => ?_)
 replace hy:=wW x0 [] 0 x1 rfl hl1 y hy
 cases y with
 | x0 w0_0 w0_1 =>
  have h0:=hy
  exact JG (DP Tryz.f32 [.lp (.exit 0) (kT w0_0 w0_1)] (AL h0<|AN))
noncomputable def aW (x:List GTask) (k:Int):(List GTask)×Int:=(ek x k).getD ([],0)
theorem ya (x0:List GTask) (x1:Int) (h:ek x0 x1=some (aW x0 x1)):Does E 32 [.one (.s .own () 5 (x0.map (GTask.t .own))),.one (tI x1)] [(false,[.s .own () 5 (((aW x0 x1).1).map (GTask.t .own))]),(false,[tI ((aW x0 x1).2)])]:=by
 exact yr x0 x1 _ h
theorem qe:∀ (rest done:List GTask) (i:Nat) (k:Int),(∀ y∈rest,ak.sm y)→0≤k→k+1050004*(rest.length:Int)≤4611686018427387904 →
  ∃ new m,dR rest done i k=some (.x0 (done++new) m)∧k≤m∧m≤k+1050004*(rest.length:Int)∧new.length=rest.length∧(∀ y∈new,ak.sm y)
 | [],done,i,k,_,h0,_=>⟨[],k,by unfold dR;rw [List.append_nil],by omega,by simp,rfl,fun y hy=>(by cases hy)⟩
 | x::rest,done,i,k,h,h0,h1=>by
  have hx:=h x (by simp)
  rw [List.length_cons] at h1 ⊢
  have t1:=nb k (by omega)
  have w1:inc k=k+1:=fg _ (by omega) (by omega)
  have t2:=nb (k+1) (by omega)
  have w2:inc (k+1)=(k+1)+1:=fg _ (by omega) (by omega)
  have w3:inc ((k+1)+1)=((k+1)+1)+1:=fg _ (by omega) (by omega)
  have w4:inc (((k+1)+1)+1)=(((k+1)+1)+1)+1:=fg _ (by omega) (by omega)
  have a5:=uR x.f4 ((((k+1)+1)+1)+1) hx.2.2 (by omega) (by omega)
  have d5:decide ((az x.f4 ((((k+1)+1)+1)+1)).2<(0:Int))=false:=decide_eq_false (by omega)
  obtain ⟨new,m,g1,g2,g3,g4,g5⟩:=qe rest (done++[(GTask.mk (ah k) (ah (k+1)) ((k+1)+1) ((Int.tmod (((k+1)+1)+1) (3:Int))==(0:Int)) (az x.f4 ((((k+1)+1)+1)+1)).1)]) (i+1) ((az x.f4 ((((k+1)+1)+1)+1)).2) (fun y hy=>h y (by simp [hy])) (by omega) (by omega)
  refine ⟨(GTask.mk (ah k) (ah (k+1)) ((k+1)+1) ((Int.tmod (((k+1)+1)+1) (3:Int))==(0:Int)) (az x.f4 ((((k+1)+1)+1)+1)).1)::new,m,?_,by omega,by omega,by simp [g4],?_⟩
  ·unfold dR
   simp only [t1.1,w1,t2.1,w2,w3,w4,a5.1,d5,if_true,g1,List.append_assoc,List.singleton_append]
  ·intro y hy
   rcases List.mem_cons.1 hy with rfl | hy
   ·exact ⟨t1.2,t2.2,a5.2.2.2.2.2⟩
   ·exact g5 y hy
theorem xb (l:List GTask) (k:Int) (h:ak.sm l) (h0:0≤k) (h1:k+1102504200000≤4611686018427387904):ek l k=some (aW l k)∧True∧True∧k≤(aW l k).2∧(aW l k).2≤k+1102504200000∧ak.sm (aW l k).1:=by
 have hl:=h.1
 obtain ⟨new,m,g1,g2,g3,g4,g5⟩:=qe l [] 0 k h.2 h0 (by omega)
 have e:ek l k=some (new,m):=by unfold ek;rw [if_pos (hZ h),g1];rfl
 have p:aW l k=(new,m):=by unfold aW;rw [e];rfl
 rw [p]
 exact ⟨e,trivial,trivial,g2,by omega,⟨by show new.length≤1050000;omega,g5⟩⟩
noncomputable def fx (x0:GDag) (x1:Int):Option (GDag×Int) :=
  if ek x0.f5 x1=some (aW x0.f5 x1) then some ((GDag.mk x0.f0 x0.f1 x0.f2 x0.f3 x0.f4 ((aW x0.f5 x1).1)),(aW x0.f5 x1).2) else none
theorem Ca (x0:GDag) (x1:Int):Ans (fx x0 x1) (fun r=>Does E 13 [.agg (GDag.t .own .own x0),.one (tI x1)] [(true,GDag.t .own .own r.1),(false,[tI r.2])]):=by
 unfold fx
 refine JL (fun h0 => ?_)
 exact JG (DP Tryz.f13 [.ret [(false,[.s .own () 5 (((aW x0.f5 x1).1).map (GTask.t .own))]),(false,[tI ((aW x0.f5 x1).2)])]] (AV (ψ:=fun k=>E.C k 32 [.one (.s .own () 5 (x0.f5.map (GTask.t .own))),.one (tI x1)]=some [(false,[.s .own () 5 (((aW x0.f5 x1).1).map (GTask.t .own))]),(false,[tI ((aW x0.f5 x1).2)])]) (ya x0.f5 x1 h0)<|AN))
noncomputable def aJ (x:GDag) (k:Int):GDag×Int:=(fx x k).getD (x,0)
theorem mu (x0:GDag) (x1:Int) (h:fx x0 x1=some (aJ x0 x1)):Does E 13 [.agg (GDag.t .own .own x0),.one (tI x1)] [(true,GDag.t .own .own ((aJ x0 x1).1)),(false,[tI ((aJ x0 x1).2)])]:=by
 exact Ca x0 x1 _ h
theorem AA (x:GDag) (k:Int) (h:ak.sm x) (h0:0≤k) (h1:k+1102504200000≤4611686018427387904):fx x k=some (aJ x k)∧True∧True∧k≤(aJ x k).2∧(aJ x k).2≤k+1102504200000∧ak.sm (aJ x k).1∧(GDag.mk x.f0 x.f1 x.f2 x.f3 x.f4 (((aJ x k).1).f5))=(aJ x k).1:=by
 obtain ⟨hx0,hx1,hx5⟩:=h
 have a1:=xb x.f5 k hx5 (by omega) (by omega)
 have d1:decide ((aW x.f5 k).2<(0:Int))=false:=decide_eq_false (by omega)
 have e:fx x k=some ((GDag.mk x.f0 x.f1 x.f2 x.f3 x.f4 (aW x.f5 k).1),((aW x.f5 k).2)):=by unfold fx;simp only [a1.1,d1,if_true]
 have p:aJ x k=((GDag.mk x.f0 x.f1 x.f2 x.f3 x.f4 (aW x.f5 k).1),((aW x.f5 k).2)):=by unfold aJ;rw [e];rfl
 rw [p]
 exact ⟨e,trivial,trivial,by omega,by omega,⟨hx0,hx1,a1.2.2.2.2.2⟩,by first | rfl | simp only [a1.1,d1,if_true]⟩
inductive oT where
 | x0 (v0:List GState) (v1:Int)
def i6 (v0:List GState) (v1 v5:Int):US:=stL 41 [(0,.one (.s .own () 4 (v0.map GState.t))),(1,.one (tI v1)),(5,.one (tI v5))]
def kb (zv0:List GState) (zv1:Int):US:=stL 41 [(0,.one (.s .own () 4 (zv0.map GState.t))),(1,.one (tI zv1))]
abbrev oS:US→Exit→US→Prop:=Round E 33 (av Tryz.f33 0)
def vN (v0:List GState) (v1 v5:Int):oT→Prop
 | .x0 zv0 zv1=>Loops E 33 (av Tryz.f33 0) (i6 v0 v1 v5) (.exit 0) (kb zv0 zv1)
noncomputable def dn  : List GState→List GState→Nat→Int→Option oT
 | [],done,i,v1=>some (.x0 done v1)
 | hd::rest,done,i,v1=>dn rest (done++[(GState.mk v1 (inc v1) (inc (inc v1)) (inc (inc (inc v1))))]) (i+1) (inc (inc (inc (inc v1))))
theorem vM  (rest:List GState):∀ (done:List GState) (i:Nat) (v1:Int),i=done.length→(done++rest).length≤9223372036854775807→Ans (dn rest done i v1) (vN (done++rest) v1 (i:Int)):=by
 induction rest with
 | nil =>
  intro done i v1 hi hl
  rw [List.append_nil]
  have hb:=As hi
  unfold dn
  exact JG (JI (show oS (i6 done v1 (i:Int)) (.exit 0) (kb done v1) from RP [.val (.int .i64 (done.length:Int)),.b false] (ALn done GState.t<|AC hb<|AN)) (by intro h;cases h))
 | cons hd rest ih =>
  intro done i v1 hi hl
  have hb:=w9 (hd:=hd) (rest:=rest) hi
  have hw:=xa (hd:=hd) (rest:=rest) hi hl
  have hg:=At (hd:=hd) (rest:=rest) hi
  unfold dn
  exact (ih (done++[(GState.mk v1 (inc v1) (inc (inc v1)) (inc (inc (inc v1))))]) (i+1) (inc (inc (inc (inc v1)))) (by simp [hi]) (by simpa using hl)).mono fun y hy=>by have r:oS (i6 (done++hd::rest) v1 (i:Int)) .normal (i6 ((done++hd::rest).set (i:Int).toNat (GState.mk v1 (inc v1) (inc (inc v1)) (inc (inc (inc v1))))) (inc (inc (inc (inc v1)))) (inc (i:Int))):=RP [.val (.int .i64 ((done++hd::rest).length:Int)),.b true,.row (GState.t hd),.rows (((done++hd::rest).set (i:Int).toNat (GState.mk v1 hd.f1 hd.f2 hd.f3)).map GState.t),.row (GState.t (GState.mk v1 hd.f1 hd.f2 hd.f3)),.rows (((done++hd::rest).set (i:Int).toNat (GState.mk v1 (inc v1) hd.f2 hd.f3)).map GState.t),.row (GState.t (GState.mk v1 (inc v1) hd.f2 hd.f3)),.rows (((done++hd::rest).set (i:Int).toNat (GState.mk v1 (inc v1) (inc (inc v1)) hd.f3)).map GState.t),.row (GState.t (GState.mk v1 (inc v1) (inc (inc v1)) hd.f3)),.rows (((done++hd::rest).set (i:Int).toNat (GState.mk v1 (inc v1) (inc (inc v1)) (inc (inc (inc v1))))).map GState.t)] (ALn (done++hd::rest) GState.t<|AC hb<|AG GState.t hg<|AC (p:=((done++hd::rest).map GState.t).set (0+(i:Int).toNat) (ao (GState.t hd) 0 [tI v1])=((done++hd::rest).set (i:Int).toNat (GState.mk v1 hd.f1 hd.f2 hd.f3)).map GState.t) (eQ (by rfl))<|AC (p:=0≤(i:Int)∧(i:Int)<((((done++hd::rest).set (i:Int).toNat (GState.mk v1 hd.f1 hd.f2 hd.f3)).map GState.t).length:Int)) (kz (dh hg))<|AC (p:=(((done++hd::rest).set (i:Int).toNat (GState.mk v1 hd.f1 hd.f2 hd.f3)).map GState.t)[0+(i:Int).toNat]?=some (GState.t (GState.mk v1 hd.f1 hd.f2 hd.f3))) (eY (dh hg))<|AC (p:=(((done++hd::rest).set (i:Int).toNat (GState.mk v1 hd.f1 hd.f2 hd.f3)).map GState.t).set (0+(i:Int).toNat) (ao (GState.t (GState.mk v1 hd.f1 hd.f2 hd.f3)) 1 [tI (inc v1)])=((done++hd::rest).set (i:Int).toNat (GState.mk v1 (inc v1) hd.f2 hd.f3)).map GState.t) (mr (by rfl))<|AC (p:=0≤(i:Int)∧(i:Int)<((((done++hd::rest).set (i:Int).toNat (GState.mk v1 (inc v1) hd.f2 hd.f3)).map GState.t).length:Int)) (kz (dh hg))<|AC (p:=(((done++hd::rest).set (i:Int).toNat (GState.mk v1 (inc v1) hd.f2 hd.f3)).map GState.t)[0+(i:Int).toNat]?=some (GState.t (GState.mk v1 (inc v1) hd.f2 hd.f3))) (eY (dh hg))<|AC (p:=(((done++hd::rest).set (i:Int).toNat (GState.mk v1 (inc v1) hd.f2 hd.f3)).map GState.t).set (0+(i:Int).toNat) (ao (GState.t (GState.mk v1 (inc v1) hd.f2 hd.f3)) 2 [tI (inc (inc v1))])=((done++hd::rest).set (i:Int).toNat (GState.mk v1 (inc v1) (inc (inc v1)) hd.f3)).map GState.t) (mr (by rfl))<|AC (p:=0≤(i:Int)∧(i:Int)<((((done++hd::rest).set (i:Int).toNat (GState.mk v1 (inc v1) (inc (inc v1)) hd.f3)).map GState.t).length:Int)) (kz (dh hg))<|AC (p:=(((done++hd::rest).set (i:Int).toNat (GState.mk v1 (inc v1) (inc (inc v1)) hd.f3)).map GState.t)[0+(i:Int).toNat]?=some (GState.t (GState.mk v1 (inc v1) (inc (inc v1)) hd.f3))) (eY (dh hg))<|AC (p:=(((done++hd::rest).set (i:Int).toNat (GState.mk v1 (inc v1) (inc (inc v1)) hd.f3)).map GState.t).set (0+(i:Int).toNat) (ao (GState.t (GState.mk v1 (inc v1) (inc (inc v1)) hd.f3)) 3 [tI (inc (inc (inc v1)))])=((done++hd::rest).set (i:Int).toNat (GState.mk v1 (inc v1) (inc (inc v1)) (inc (inc (inc v1))))).map GState.t) (mr (by rfl))<|AN);rw [hw,uZ hi] at r;cases y<;>exact JH r hy
noncomputable def dQ (x0:List GState) (x1:Int):Option ((List GState)×Int) :=
  if x0.length≤9223372036854775807 then (dn x0 [] 0 x1).bind fun y=>match y with
   | .x0 w0_0 w0_1=>(some (w0_0,w0_1)) else none
theorem wV (x0:List GState) (x1:Int):Ans (dQ x0 x1) (fun r=>Does E 33 [.one (.s .own () 4 (x0.map GState.t)),.one (tI x1)] [(false,[.s .own () 4 (r.1.map GState.t)]),(false,[tI r.2])]):=by
 unfold dQ
 refine JL (fun hl1 => ?_)
 refine JK (fun y hy => ?_)
 replace hy:=vM x0 [] 0 x1 rfl hl1 y hy
 cases y with
 | x0 w0_0 w0_1 =>
  have h0:=hy
  exact JG (DP Tryz.f33 [.lp (.exit 0) (kb w0_0 w0_1)] (AL h0<|AN))
inductive oR where
 | ret (v4:Int)
 | x0 (v1:Int)
def cN (v0:List GState) (v1 v5:Int):US:=stL 49 [(0,.one (.s .far () 4 (v0.map GState.t))),(1,.one (tI v1)),(5,.one (tI v5))]
def dO (zv4:Int):US:=stL 49 [(4,.one (tI zv4))]
def ka (zv1:Int):US:=stL 49 [(1,.one (tI zv1))]
abbrev e9:US→Exit→US→Prop:=Round E 34 (av Tryz.f34 0)
def vL (v0:List GState) (v1 v5:Int):oR→Prop
 | .ret zv4=>Loops E 34 (av Tryz.f34 0) (cN v0 v1 v5) .ret (dO zv4)
 | .x0 zv1=>Loops E 34 (av Tryz.f34 0) (cN v0 v1 v5) (.exit 0) (ka zv1)
noncomputable def d9  : List GState→Nat→Int→Option oR
 | [],i,v1=>some (.x0 v1)
 | hd::rest,i,v1=>cond (hd.f0 != v1)
  (some (.ret (-1:Int)))
  (cond (hd.f1 != (inc v1))
   (some (.ret (-1:Int)))
   (cond (hd.f2 != (inc (inc v1)))
    (some (.ret (-1:Int)))
    (cond (hd.f3 != (inc (inc (inc v1))))
     (some (.ret (-1:Int)))
     (d9 rest (i+1) (inc (inc (inc (inc v1))))))))
theorem vK (v0:List GState) (rest:List GState):∀ (i:Nat) (v1:Int),(v0).drop i=rest→v0.length≤9223372036854775807→Ans (d9 rest i v1) (vL v0 v1 (i:Int)):=by
 induction rest with
 | nil =>
  intro i v1 hE hl
  have hb:=bG hE
  unfold d9
  exact JG (JI (show e9 (cN v0 v1 (i:Int)) (.exit 0) (ka v1) from RP [.val (.int .i64 (v0.length:Int)),.b false] (ALn v0 GState.t<|AC hb<|AN)) (by intro h;cases h))
 | cons hd rest ih =>
  intro i v1 hE hl
  have hb:=bm hE
  have hw:=bn hE hl
  have hE2:=aK hE
  have hg:=bo hE
  unfold d9
  apply JJ<;>intro h2
  ·exact JG (JI (show e9 (cN v0 v1 (i:Int)) .ret (dO (-1:Int)) from RP [.val (.int .i64 (v0.length:Int)),.b true,.row (GState.t hd),.b true] (ALn v0 GState.t<|AC hb<|AR GState.t hg<|AC h2<|AN)) (by intro h;cases h))
  ·apply JJ<;>intro h3
   ·exact JG (JI (show e9 (cN v0 v1 (i:Int)) .ret (dO (-1:Int)) from RP [.val (.int .i64 (v0.length:Int)),.b true,.row (GState.t hd),.b false,.row (GState.t hd),.b true] (ALn v0 GState.t<|AC hb<|AR GState.t hg<|AC h2<|AR GState.t hg<|AC h3<|AN)) (by intro h;cases h))
   ·apply JJ<;>intro h4
    ·exact JG (JI (show e9 (cN v0 v1 (i:Int)) .ret (dO (-1:Int)) from RP [.val (.int .i64 (v0.length:Int)),.b true,.row (GState.t hd),.b false,.row (GState.t hd),.b false,.row (GState.t hd),.b true] (ALn v0 GState.t<|AC hb<|AR GState.t hg<|AC h2<|AR GState.t hg<|AC h3<|AR GState.t hg<|AC h4<|AN)) (by intro h;cases h))
    ·apply JJ<;>intro h5
     ·exact JG (JI (show e9 (cN v0 v1 (i:Int)) .ret (dO (-1:Int)) from RP [.val (.int .i64 (v0.length:Int)),.b true,.row (GState.t hd),.b false,.row (GState.t hd),.b false,.row (GState.t hd),.b false,.row (GState.t hd),.b true] (ALn v0 GState.t<|AC hb<|AR GState.t hg<|AC h2<|AR GState.t hg<|AC h3<|AR GState.t hg<|AC h4<|AR GState.t hg<|AC h5<|AN)) (by intro h;cases h))
     ·exact (ih (i+1) (inc (inc (inc (inc v1)))) hE2 hl).mono fun y hy=>by have r:e9 (cN v0 v1 (i:Int)) .normal (cN v0 (inc (inc (inc (inc v1)))) (inc (i:Int))):=RP [.val (.int .i64 (v0.length:Int)),.b true,.row (GState.t hd),.b false,.row (GState.t hd),.b false,.row (GState.t hd),.b false,.row (GState.t hd),.b false] (ALn v0 GState.t<|AC hb<|AR GState.t hg<|AC h2<|AR GState.t hg<|AC h3<|AR GState.t hg<|AC h4<|AR GState.t hg<|AC h5<|AN);rw [hw] at r;cases y<;>exact JH r hy
noncomputable def dP (x0:List GState) (x1:Int):Option (Int) :=
  if x0.length≤9223372036854775807 then (d9 x0 0 x1).bind fun y=>match y with
   | .ret w0_4=>(some (w0_4))
   | .x0 w0_1=>(some (w0_1)) else none
theorem wU (x0:List GState) (x1:Int):Ans (dP x0 x1) (fun r=>Does E 34 [.one (.s .far () 4 (x0.map GState.t)),.one (tI x1)] [(false,[tI r])]):=by
 unfold dP
 refine JL (fun hl1 => ?_)
 refine JK (fun y hy => ?_)
 replace hy:=vK x0 x0 0 x1 rfl hl1 y hy
 cases y with
 | ret w0_4 =>
  have h0:=hy
  exact JG (DP Tryz.f34 [.lp .ret (dO w0_4)] (AL h0<|AN))
 | x0 w0_1 =>
  have h0:=hy
  exact JG (DP Tryz.f34 [.lp (.exit 0) (ka w0_1)] (AL h0<|AN))
noncomputable def ay (x:List GState) (k:Int):(List GState)×Int:=(dQ x k).getD ([],0)
noncomputable def cm (x:List GState) (k:Int):Int:=(dP x k).getD (-1)
theorem wz (x0:List GState) (x1:Int) (h:dQ x0 x1=some (ay x0 x1)):Does E 33 [.one (.s .own () 4 (x0.map GState.t)),.one (tI x1)] [(false,[.s .own () 4 (((ay x0 x1).1).map GState.t)]),(false,[tI ((ay x0 x1).2)])]:=by
 exact wV x0 x1 _ h
theorem pF (x0:List GState) (x1:Int) (h:dP x0 x1=some (cm x0 x1)):Does E 34 [.one (.s .far () 4 (x0.map GState.t)),.one (tI x1)] [(false,[tI (cm x0 x1)])]:=by
 exact wU x0 x1 _ h
theorem oV:∀ (rest done:List GState) (i:Nat) (k:Int),(∀ y∈rest,ak.sm y)→0≤k→k+4*(rest.length:Int)≤4611686018427387904 →
  ∃ new m,dn rest done i k=some (.x0 (done++new) m)∧k≤m∧m≤k+4*(rest.length:Int)∧new.length=rest.length∧(∀ y∈new,ak.sm y)∧∀ j,d9 new j k=some (.x0 m)
 | [],done,i,k,_,h0,_=>⟨[],k,by unfold dn;rw [List.append_nil],by omega,by simp,rfl,fun y hy=>(by cases hy),fun j=>rfl⟩
 | x::rest,done,i,k,h,h0,h1=>by
  have hx:=h x (by simp)
  rw [List.length_cons] at h1 ⊢
  have w1:inc k=k+1:=fg _ (by omega) (by omega)
  have w2:inc (k+1)=(k+1)+1:=fg _ (by omega) (by omega)
  have w3:inc ((k+1)+1)=((k+1)+1)+1:=fg _ (by omega) (by omega)
  have w4:inc (((k+1)+1)+1)=(((k+1)+1)+1)+1:=fg _ (by omega) (by omega)
  obtain ⟨new,m,g1,g2,g3,g4,g5,g6⟩:=oV rest (done++[(GState.mk k (k+1) ((k+1)+1) (((k+1)+1)+1))]) (i+1) ((((k+1)+1)+1)+1) (fun y hy=>h y (by simp [hy])) (by omega) (by omega)
  refine ⟨(GState.mk k (k+1) ((k+1)+1) (((k+1)+1)+1))::new,m,?_,by omega,by omega,by simp [g4],?_,fun j => ?_⟩
  ·unfold dn
   simp only [w1,w2,w3,w4,if_true,g1,List.append_assoc,List.singleton_append]
  ·intro y hy
   rcases List.mem_cons.1 hy with rfl | hy
   ·exact trivial
   ·exact g5 y hy
  ·unfold d9
   simp only [w1,w2,w3,w4,if_true,bne_self_eq_false,BEq.rfl,Bool.not_true,cond_false,cond_true,g6]
theorem vV (l:List GState) (k:Int) (h:ak.sm l) (h0:0≤k) (h1:k+4200000≤4611686018427387904):dQ l k=some (ay l k)∧dP (ay l k).1 k=some (cm (ay l k).1 k)∧cm (ay l k).1 k=(ay l k).2∧k≤(ay l k).2∧(ay l k).2≤k+4200000∧ak.sm (ay l k).1:=by
 have hl:=h.1
 obtain ⟨new,m,g1,g2,g3,g4,g5,g6⟩:=oV l [] 0 k h.2 h0 (by omega)
 have e:dQ l k=some (new,m):=by unfold dQ;rw [if_pos (hZ h),g1];rfl
 have p:ay l k=(new,m):=by unfold ay;rw [e];rfl
 have e2:dP new k=some m:=by unfold dP;rw [if_pos (by omega),g6];rfl
 have p2:cm new k=m:=by unfold cm;rw [e2];rfl
 rw [p,p2]
 exact ⟨e,e2,rfl,g2,by omega,⟨by show new.length≤1050000;omega,g5⟩⟩
noncomputable def fy (x0:GRun) (x1:Int):Option (GRun×Int) :=
  if dQ x0.f3 x1=some (ay x0.f3 x1) then some ((GRun.mk x0.f0 x0.f1 x0.f2 ((ay x0.f3 x1).1)),(ay x0.f3 x1).2) else none
theorem Cb (x0:GRun) (x1:Int):Ans (fy x0 x1) (fun r=>Does E 14 [.agg (GRun.t .own x0),.one (tI x1)] [(true,GRun.t .own r.1),(false,[tI r.2])]):=by
 unfold fy
 refine JL (fun h0 => ?_)
 exact JG (DP Tryz.f14 [.ret [(false,[.s .own () 4 (((ay x0.f3 x1).1).map GState.t)]),(false,[tI ((ay x0.f3 x1).2)])]] (AV (ψ:=fun k=>E.C k 33 [.one (.s .own () 4 (x0.f3.map GState.t)),.one (tI x1)]=some [(false,[.s .own () 4 (((ay x0.f3 x1).1).map GState.t)]),(false,[tI ((ay x0.f3 x1).2)])]) (wz x0.f3 x1 h0)<|AN))
noncomputable def fw (x0:GRun) (x1:Int):Option (Int) :=
  if dP x0.f3 x1=some (cm x0.f3 x1) then cond (decide ((cm x0.f3 x1)<(0:Int)))
   (some ((-1:Int)))
   (some (cm x0.f3 x1)) else none
theorem B9 (x0:GRun) (x1:Int):Ans (fw x0 x1) (fun r=>Does E 15 [.agg (GRun.t .far x0),.one (tI x1)] [(false,[tI r])]):=by
 unfold fw
 refine JL (fun h0 => ?_)
 apply JJ<;>intro h1
 ·exact JG (DP Tryz.f15 [.ret [(false,[tI (cm x0.f3 x1)])],.b true] (AD (pF x0.f3 x1 h0)<|AC h1<|AN))
 ·exact JG (DP Tryz.f15 [.ret [(false,[tI (cm x0.f3 x1)])],.b false] (AD (pF x0.f3 x1 h0)<|AC h1<|AN))
noncomputable def ar (x:GRun) (k:Int):GRun×Int:=(fy x k).getD (x,0)
noncomputable def cG (x:GRun) (k:Int):Int:=(fw x k).getD (-1)
theorem o9 (x0:GRun) (x1:Int) (h:fy x0 x1=some (ar x0 x1)):Does E 14 [.agg (GRun.t .own x0),.one (tI x1)] [(true,GRun.t .own ((ar x0 x1).1)),(false,[tI ((ar x0 x1).2)])]:=by
 exact Cb x0 x1 _ h
theorem mt (x0:GRun) (x1:Int) (h:fw x0 x1=some (cG x0 x1)):Does E 15 [.agg (GRun.t .far x0),.one (tI x1)] [(false,[tI (cG x0 x1)])]:=by
 exact B9 x0 x1 _ h
theorem AB (x:GRun) (k:Int) (h:ak.sm x) (h0:0≤k) (h1:k+4200000≤4611686018427387904):fy x k=some (ar x k)∧fw (ar x k).1 k=some (cG (ar x k).1 k)∧cG (ar x k).1 k=(ar x k).2∧k≤(ar x k).2∧(ar x k).2≤k+4200000∧ak.sm (ar x k).1∧(GRun.mk x.f0 x.f1 x.f2 (((ar x k).1).f3))=(ar x k).1:=by
 obtain ⟨hx0,hx1,hx3⟩:=h
 have a1:=vV x.f3 k hx3 (by omega) (by omega)
 have d1:decide ((ay x.f3 k).2<(0:Int))=false:=decide_eq_false (by omega)
 have e:fy x k=some ((GRun.mk x.f0 x.f1 x.f2 (ay x.f3 k).1),((ay x.f3 k).2)):=by unfold fy;simp only [a1.1,a1.2.1,a1.2.2.1,d1,if_true]
 have p:ar x k=((GRun.mk x.f0 x.f1 x.f2 (ay x.f3 k).1),((ay x.f3 k).2)):=by unfold ar;rw [e];rfl
 have e2:fw (GRun.mk x.f0 x.f1 x.f2 (ay x.f3 k).1) k=some ((ay x.f3 k).2):=by unfold fw;simp only [a1.1,a1.2.1,a1.2.2.1,d1,if_true,cond_false]
 have p2:cG (GRun.mk x.f0 x.f1 x.f2 (ay x.f3 k).1) k=((ay x.f3 k).2):=by unfold cG;rw [e2];rfl
 rw [p,p2]
 exact ⟨e,e2,rfl,by omega,by omega,⟨hx0,hx1,a1.2.2.2.2.2⟩,by first | rfl | simp only [a1.1,a1.2.1,a1.2.2.1,d1,if_true]⟩
end Go.Proofs.YtgaiiephdjllkaaGreatDoor.Am
