/- What stands above a task; orders; what the functions that measure, copy and compare plans do. -/
import Derived.Test.YtjfbofdmjihglaaGreatDoorPlans
namespace Go.Proofs.YtjfbofdmjihglaaGreatDoor.Am
open Go Go.Proofs Classical
set_option maxRecDepth 100000
set_option linter.unusedVariables false
set_option linter.unusedSimpArgs false
theorem xE {d:GDag} (h:fu d=true):d.f5.length≤4∧1≤d.f5.length∧dt d.f5 d.f5 0=true∧d7 d.f5∧(jz d.f5).length=d.f5.length:=by
 unfold fu at h
 simp only [Bool.and_eq_true,beq_iff_eq] at h
 obtain ⟨_,_,_,_,h5,h6,h7⟩:=h
 have h4:1≤d.f5.length∧d.f5.length≤4:=by unfold aB at h5;simp at h5;omega
 exact ⟨h4.2,h4.1,h6,pq h4.2 h6,by omega⟩
end Go.Proofs.YtjfbofdmjihglaaGreatDoor.Am
namespace Go.Proofs.YtjfbofdmjihglaaGreatDoor.Am
open Go Go.Proofs Classical
set_option maxRecDepth 100000
set_option linter.unusedVariables false
set_option linter.unusedSimpArgs false
inductive oN where
 | ret (v4:Int)
 | x0 (v1:Int)
def eT (v0:List ByteArray) (v1 v5:Int):US:=stL 28 [(0,.one (.s .far () 1 (v0.map etS))),(1,.one (tI v1)),(5,.one (tI v5))]
def jo (zv4:Int):US:=stL 28 [(4,.one (tI zv4))]
def jW (zv1:Int):US:=stL 28 [(1,.one (tI zv1))]
abbrev ll:US→Exit→US→Prop:=Round E 66 (au Tryz.f66 0)
def vh (v0:List ByteArray) (v1 v5:Int):oN→Prop
 | .ret zv4=>Loops E 66 (au Tryz.f66 0) (eT v0 v1 v5) .ret (jo zv4)
 | .x0 zv1=>Loops E 66 (au Tryz.f66 0) (eT v0 v1 v5) (.exit 0) (jW zv1)
noncomputable def cI  : List ByteArray→Nat→Int→Option oN
 | [],i,v1=>some (.x0 v1)
 | hd::rest,i,v1=>cond (decide ((IntKind.wrap .i64 (v1-(hd.size:Int)))<(0:Int)))
  (some (.ret (-1:Int)))
  (cI rest (i+1) (IntKind.wrap .i64 (v1-(hd.size:Int))))
theorem vg (v0:List ByteArray) (rest:List ByteArray):∀ (i:Nat) (v1:Int),(v0).drop i=rest→v0.length≤9223372036854775807→Ans (cI rest i v1) (vh v0 v1 (i:Int)):=by
 induction rest with
 | nil =>
  intro i v1 hE hl
  have hb:=bq hE
  unfold cI
  exact Ib (Id (show ll (eT v0 v1 (i:Int)) (.exit 0) (jW v1) from RP [.val (.int .i64 (v0.length:Int)),.b false] (ALn v0 etS<|AC hb<|AN)) (by intro h;cases h))
 | cons hd rest ih =>
  intro i v1 hE hl
  have hb:=a8 hE
  have hw:=ba hE hl
  have hE2:=aG hE
  have hg:=bd hE
  unfold cI
  apply Ie<;>intro h2
  ·exact Ib (Id (show ll (eT v0 v1 (i:Int)) .ret (jo (-1:Int)) from RP [.val (.int .i64 (v0.length:Int)),.b true,.row (etS hd),.no,.b true] (ALn v0 etS<|AC hb<|AR etS hg<|AC h2<|AN)) (by intro h;cases h))
  ·exact (ih (i+1) (IntKind.wrap .i64 (v1-(hd.size:Int))) hE2 hl).mono fun y hy=>by have r:ll (eT v0 v1 (i:Int)) .normal (eT v0 (IntKind.wrap .i64 (v1-(hd.size:Int))) (inc (i:Int))):=RP [.val (.int .i64 (v0.length:Int)),.b true,.row (etS hd),.no,.b false] (ALn v0 etS<|AC hb<|AR etS hg<|AC h2<|AN);rw [hw] at r;cases y<;>exact Ic r hy
noncomputable def fj (x0:List ByteArray) (x1:Int):Option (Int) :=
  cond (decide ((IntKind.wrap .i64 (x1-(x0.length:Int)))<(0:Int)))
   (some ((-1:Int)))
   (if x0.length≤9223372036854775807 then (cI x0 0 (IntKind.wrap .i64 (x1-(x0.length:Int)))).bind fun y=>match y with
    | .ret w0_4=>(some (w0_4))
    | .x0 w0_1=>(some (w0_1)) else none)
theorem wF (x0:List ByteArray) (x1:Int):Ans (fj x0 x1) (fun r=>Does E 66 [.one (.s .far () 1 (x0.map etS)),.one (tI x1)] [(false,[tI r])]):=by
 unfold fj
 apply Ie<;>intro h0
 ·exact Ib (DP Tryz.f66 [.val (.int .i64 (x0.length:Int)),.no,.b true] (ALn x0 etS<|AC h0<|AN))
 ·refine Ig (fun hl2 => ?_)
  refine If (fun y hy => ?_)
  replace hy:=vg x0 x0 0 (IntKind.wrap .i64 (x1-(x0.length:Int))) rfl hl2 y hy
  cases y with
  | ret w0_4 =>
   have h1:=hy
   exact Ib (DP Tryz.f66 [.val (.int .i64 (x0.length:Int)),.no,.b false,.lp .ret (jo w0_4)] (ALn x0 etS<|AC h0<|AL h1<|AN))
  | x0 w0_1 =>
   have h1:=hy
   exact Ib (DP Tryz.f66 [.val (.int .i64 (x0.length:Int)),.no,.b false,.lp (.exit 0) (jW w0_1)] (ALn x0 etS<|AC h0<|AL h1<|AN))
noncomputable def cE (x:List ByteArray) (n:Int):Int:=(fj x n).getD (-1)
theorem o5:∀ (rest:List ByteArray) (i:Nat) (n:Int),(∀ y∈rest,Wf.wf y)→Tot (cI rest i n)
 | [],i,n,_=>Tot.some _
 | x::rest,i,n,h=>by
  have hx:=h x (by simp)
  have ih:=fun i n=>o5 rest i n fun y hy=>h y (by simp [hy])
  unfold cI
  repeat' (first | exact Tot.some _ | exact ih _ _ | apply Tot.cond | refine Tot.ite (by assumption) ?_)
theorem nT (x:List ByteArray) (n:Int) (h:Wf.wf x):fj x n=some (cE x n):=by
 refine Tot.getD ?_ _
 unfold fj
 refine Tot.cond (Tot.some _) ?_
 refine Tot.ite h.1 (Tot.bind (o5 x 0 _ h.2) fun y hy => ?_)
 cases y<;>exact Tot.some _
theorem pU (x0:List ByteArray) (x1:Int) (h:Wf.wf x0):Does E 66 [.one (.s .far () 1 (x0.map etS)),.one (tI x1)] [(false,[tI (cE x0 x1)])]:=by
 exact wF x0 x1 _ (nT x0 x1 h)
theorem nM:∀ (rest:List ByteArray) (i:Nat) (n:Int),(∀ y∈rest,Wf.wf y)→0≤n→n≤1048576→∀ y,cI rest i n=some y →
  (∃ m,y = .x0 m∧0≤m∧m≤n∧∀ z∈rest,an.sm z)∨∃ m,y = .ret m∧m<0
 | [],i,n,_,h0,h1,y,e=>by cases e;exact .inl ⟨n,rfl,h0,Int.le_refl _,fun z hz=>by cases hz⟩
 | x::rest,i,n,h,h0,h1,y,e=>by
  have hx:=h x (by simp)
  unfold cI at e
  try rw [if_pos hx] at e
  by_cases q:IntKind.wrap .i64 (n-(x.size:Int))<0
  ·rw [decide_eq_true q,cond_true] at e
   cases e
   exact .inr ⟨_,rfl,by omega⟩
  ·rw [decide_eq_false q,cond_false] at e
   try rw [if_pos hx] at e
   obtain ⟨b,c⟩:=pP h0 h1 hx (by omega)
   rcases nM rest _ _ (fun y hy=>h y (by simp [hy])) (by omega) (by omega) y e with ⟨m,g1,g2,g3,g4⟩ | g
   ·refine .inl ⟨m,g1,g2,by omega,fun z hz => ?_⟩
    rcases List.mem_cons.1 hz with rfl | hz
    ·exact j6 c
    ·exact g4 z hz
   ·exact .inr g
theorem vk (x:List ByteArray) (n:Int) (hw:Wf.wf x) (h0:0≤n) (h1:n≤1048576) (h:0≤cE x n):cE x n≤n∧an.sm x:=by
 have e:=nT x n hw
 generalize cE x n=r at *
 unfold fj at e
 obtain ⟨a1,e⟩:=l9 e h
 obtain ⟨b1,c1⟩:=pP (n:=n) (k:=x.length) h0 h1 hw.1 a1
 rw [if_pos hw.1,Option.bind_eq_some_iff] at e
 obtain ⟨y,e1,e2⟩:=e
 rcases nM x 0 _ hw.2 a1 (by omega) y e1 with ⟨m,rfl,g2,g3,g4⟩ | ⟨m,rfl,g⟩
 ·cases e2;exact ⟨by omega,j6 c1,g4⟩
 ·cases e2;omega
noncomputable def iY (x0:GTask) (x1:Int):Option (Int) :=
  cond (decide ((IntKind.wrap .i64 (x1-(x0.f0.size:Int)))<(0:Int)))
   (some ((-1:Int)))
   (cond (decide ((IntKind.wrap .i64 ((IntKind.wrap .i64 (x1-(x0.f0.size:Int)))-(x0.f1.size:Int)))<(0:Int)))
    (some ((-1:Int)))
    (if Wf.wf x0.f4 then cond (decide ((cE x0.f4 (IntKind.wrap .i64 ((IntKind.wrap .i64 (x1-(x0.f0.size:Int)))-(x0.f1.size:Int))))<(0:Int)))
     (some ((-1:Int)))
     (some (cE x0.f4 (IntKind.wrap .i64 ((IntKind.wrap .i64 (x1-(x0.f0.size:Int)))-(x0.f1.size:Int))))) else none))
theorem B6 (x0:GTask) (x1:Int):Ans (iY x0 x1) (fun r=>Does E 42 [.agg (GTask.t .far x0),.one (tI x1)] [(false,[tI r])]):=by
 unfold iY
 apply Ie<;>intro h0
 ·exact Ib (DP Tryz.f42 [.no,.b true] (AC h0<|AN))
 ·apply Ie<;>intro h1
  ·exact Ib (DP Tryz.f42 [.no,.b false,.no,.b true] (AC h0<|AC h1<|AN))
  ·refine Ig (fun h2 => ?_)
   apply Ie<;>intro h3
   ·exact Ib (DP Tryz.f42 [.no,.b false,.no,.b false,.ret [(false,[tI (cE x0.f4 (IntKind.wrap .i64 ((IntKind.wrap .i64 (x1-(x0.f0.size:Int)))-(x0.f1.size:Int))))])],.b true] (AC h0<|AC h1<|AD (pU x0.f4 (IntKind.wrap .i64 ((IntKind.wrap .i64 (x1-(x0.f0.size:Int)))-(x0.f1.size:Int))) h2)<|AC h3<|AN))
   ·exact Ib (DP Tryz.f42 [.no,.b false,.no,.b false,.ret [(false,[tI (cE x0.f4 (IntKind.wrap .i64 ((IntKind.wrap .i64 (x1-(x0.f0.size:Int)))-(x0.f1.size:Int))))])],.b false] (AC h0<|AC h1<|AD (pU x0.f4 (IntKind.wrap .i64 ((IntKind.wrap .i64 (x1-(x0.f0.size:Int)))-(x0.f1.size:Int))) h2)<|AC h3<|AN))
noncomputable def de (x:GTask) (n:Int):Int:=(iY x n).getD (-1)
theorem rO (x:GTask) (n:Int) (h:Wf.wf x):iY x n=some (de x n):=by
 obtain ⟨w0,w1,w4⟩:=h
 refine Tot.getD ?_ _
 unfold iY
 repeat' (first | exact Tot.some _ | apply Tot.cond | refine Tot.ite (by assumption) ?_)
theorem tH (x0:GTask) (x1:Int) (h:Wf.wf x0):Does E 42 [.agg (GTask.t .far x0),.one (tI x1)] [(false,[tI (de x0 x1)])]:=by
 exact B6 x0 x1 _ (rO x0 x1 h)
theorem Ap (x:GTask) (n:Int) (hw:Wf.wf x) (h0:0≤n) (h1:n≤1048576) (h:0≤de x n):de x n≤n∧an.sm x:=by
 have e:=rO x n hw
 obtain ⟨w0,w1,w4⟩:=hw
 generalize de x n=r at *
 unfold iY at e
 obtain ⟨a1,e⟩:=l9 e h
 obtain ⟨b1,c1⟩:=pP (n:=n) (k:=x.f0.size) h0 (by omega) w0 a1
 generalize IntKind.wrap .i64 (n-(x.f0.size:Int))=m1 at *
 obtain ⟨a2,e⟩:=l9 e h
 obtain ⟨b2,c2⟩:=pP (n:=m1) (k:=x.f1.size) a1 (by omega) w1 a2
 generalize IntKind.wrap .i64 (m1-(x.f1.size:Int))=m2 at *
 try rw [if_pos w4] at e
 obtain ⟨a3,e⟩:=l9 e h
 try rw [if_pos w4] at e
 obtain ⟨b3,c3⟩:=vk x.f4 m2 w4 a2 (by omega) a3
 generalize cE x.f4 m2=m3 at *
 cases e
 exact ⟨by omega,⟨j6 c1,j6 c2,c3⟩⟩
inductive rl where
 | ret (v4:Int)
 | x0 (v1:Int)
def fW (q0:Kd) (v0:List GTask) (v1 v5:Int):US:=stL 27 [(0,.one (.s .far () 5 (v0.map (GTask.t q0)))),(1,.one (tI v1)),(5,.one (tI v5))]
def kL (q0:Kd) (zv4:Int):US:=stL 27 [(4,.one (tI zv4))]
def lm (q0:Kd) (zv1:Int):US:=stL 27 [(1,.one (tI zv1))]
abbrev nb:US→Exit→US→Prop:=Round E 25 (au Tryz.f25 0)
def yw {q0:Kd} (v0:List GTask) (v1 v5:Int):rl→Prop
 | .ret zv4=>Loops E 25 (au Tryz.f25 0) (fW q0 v0 v1 v5) .ret (kL q0 zv4)
 | .x0 zv1=>Loops E 25 (au Tryz.f25 0) (fW q0 v0 v1 v5) (.exit 0) (lm q0 zv1)
noncomputable def dH  : List GTask→Nat→Int→Option rl
 | [],i,v1=>some (.x0 v1)
 | hd::rest,i,v1=>if Wf.wf hd then cond (decide ((de hd v1)<(0:Int)))
  (some (.ret (-1:Int)))
  (dH rest (i+1) (de hd v1)) else none
theorem yv {q0:Kd} (v0:List GTask) (rest:List GTask):∀ (i:Nat) (v1:Int),(v0).drop i=rest→v0.length≤9223372036854775807→Ans (dH rest i v1) (yw (q0:=q0) v0 v1 (i:Int)):=by
 induction rest with
 | nil =>
  intro i v1 hE hl
  have hb:=bq hE
  unfold dH
  exact Ib (Id (show nb (fW q0 v0 v1 (i:Int)) (.exit 0) (lm q0 v1) from RP [.val (.int .i64 (v0.length:Int)),.b false] (ALn v0 (GTask.t q0)<|AC hb<|AN)) (by intro h;cases h))
 | cons hd rest ih =>
  intro i v1 hE hl
  have hb:=a8 hE
  have hw:=ba hE hl
  have hE2:=aG hE
  have hg:=bd hE
  unfold dH
  refine Ig (fun h2 => ?_)
  apply Ie<;>intro h3
  ·exact Ib (Id (show nb (fW q0 v0 v1 (i:Int)) .ret (kL q0 (-1:Int)) from RP [.val (.int .i64 (v0.length:Int)),.b true,.row ((GTask.t q0) hd),.ret [(false,[tI (de hd v1)])],.b true] (ALn v0 (GTask.t q0)<|AC hb<|AR (GTask.t q0) hg<|AD (tH hd v1 h2)<|AC h3<|AN)) (by intro h;cases h))
  ·exact (ih (i+1) (de hd v1) hE2 hl).mono fun y hy=>by have r:nb (fW q0 v0 v1 (i:Int)) .normal (fW q0 v0 (de hd v1) (inc (i:Int))):=RP [.val (.int .i64 (v0.length:Int)),.b true,.row ((GTask.t q0) hd),.ret [(false,[tI (de hd v1)])],.b false] (ALn v0 (GTask.t q0)<|AC hb<|AR (GTask.t q0) hg<|AD (tH hd v1 h2)<|AC h3<|AN);rw [hw] at r;cases y<;>exact Ic r hy
noncomputable def gT (x0:List GTask) (x1:Int):Option (Int) :=
  cond (decide ((IntKind.wrap .i64 (x1-(x0.length:Int)))<(0:Int)))
   (some ((-1:Int)))
   (if x0.length≤9223372036854775807 then (dH x0 0 (IntKind.wrap .i64 (x1-(x0.length:Int)))).bind fun y=>match y with
    | .ret w0_4=>(some (w0_4))
    | .x0 w0_1=>(some (w0_1)) else none)
theorem An {q0:Kd} (x0:List GTask) (x1:Int):Ans (gT x0 x1) (fun r=>Does E 25 [.one (.s .far () 5 (x0.map (GTask.t q0))),.one (tI x1)] [(false,[tI r])]):=by
 unfold gT
 apply Ie<;>intro h0
 ·exact Ib (DP Tryz.f25 [.val (.int .i64 (x0.length:Int)),.no,.b true] (ALn x0 (GTask.t q0)<|AC h0<|AN))
 ·refine Ig (fun hl2 => ?_)
  refine If (fun y hy => ?_)
  replace hy:=yv (q0:=q0) x0 x0 0 (IntKind.wrap .i64 (x1-(x0.length:Int))) rfl hl2 y hy
  cases y with
  | ret w0_4 =>
   have h1:=hy
   exact Ib (DP Tryz.f25 [.val (.int .i64 (x0.length:Int)),.no,.b false,.lp .ret (kL q0 w0_4)] (ALn x0 (GTask.t q0)<|AC h0<|AL h1<|AN))
  | x0 w0_1 =>
   have h1:=hy
   exact Ib (DP Tryz.f25 [.val (.int .i64 (x0.length:Int)),.no,.b false,.lp (.exit 0) (lm q0 w0_1)] (ALn x0 (GTask.t q0)<|AC h0<|AL h1<|AN))
noncomputable def cF (x:List GTask) (n:Int):Int:=(gT x n).getD (-1)
theorem rN:∀ (rest:List GTask) (i:Nat) (n:Int),(∀ y∈rest,Wf.wf y)→Tot (dH rest i n)
 | [],i,n,_=>Tot.some _
 | x::rest,i,n,h=>by
  have hx:=h x (by simp)
  have ih:=fun i n=>rN rest i n fun y hy=>h y (by simp [hy])
  unfold dH
  repeat' (first | exact Tot.some _ | exact ih _ _ | apply Tot.cond | refine Tot.ite (by assumption) ?_)
theorem qm (x:List GTask) (n:Int) (h:Wf.wf x):gT x n=some (cF x n):=by
 refine Tot.getD ?_ _
 unfold gT
 refine Tot.cond (Tot.some _) ?_
 refine Tot.ite h.1 (Tot.bind (rN x 0 _ h.2) fun y hy => ?_)
 cases y<;>exact Tot.some _
theorem r7 {q0:Kd} (x0:List GTask) (x1:Int) (h:Wf.wf x0):Does E 25 [.one (.s .far () 5 (x0.map (GTask.t q0))),.one (tI x1)] [(false,[tI (cF x0 x1)])]:=by
 exact An x0 x1 _ (qm x0 x1 h)
theorem p9:∀ (rest:List GTask) (i:Nat) (n:Int),(∀ y∈rest,Wf.wf y)→0≤n→n≤1048576→∀ y,dH rest i n=some y →
  (∃ m,y = .x0 m∧0≤m∧m≤n∧∀ z∈rest,an.sm z)∨∃ m,y = .ret m∧m<0
 | [],i,n,_,h0,h1,y,e=>by cases e;exact .inl ⟨n,rfl,h0,Int.le_refl _,fun z hz=>by cases hz⟩
 | x::rest,i,n,h,h0,h1,y,e=>by
  have hx:=h x (by simp)
  unfold dH at e
  try rw [if_pos hx] at e
  by_cases q:de x n<0
  ·rw [decide_eq_true q,cond_true] at e
   cases e
   exact .inr ⟨_,rfl,by omega⟩
  ·rw [decide_eq_false q,cond_false] at e
   try rw [if_pos hx] at e
   obtain ⟨b,c⟩:=Ap x n hx h0 h1 (by omega)
   rcases p9 rest _ _ (fun y hy=>h y (by simp [hy])) (by omega) (by omega) y e with ⟨m,g1,g2,g3,g4⟩ | g
   ·refine .inl ⟨m,g1,g2,by omega,fun z hz => ?_⟩
    rcases List.mem_cons.1 hz with rfl | hz
    ·exact c
    ·exact g4 z hz
   ·exact .inr g
theorem yA (x:List GTask) (n:Int) (hw:Wf.wf x) (h0:0≤n) (h1:n≤1048576) (h:0≤cF x n):cF x n≤n∧an.sm x:=by
 have e:=qm x n hw
 generalize cF x n=r at *
 unfold gT at e
 obtain ⟨a1,e⟩:=l9 e h
 obtain ⟨b1,c1⟩:=pP (n:=n) (k:=x.length) h0 h1 hw.1 a1
 rw [if_pos hw.1,Option.bind_eq_some_iff] at e
 obtain ⟨y,e1,e2⟩:=e
 rcases p9 x 0 _ hw.2 a1 (by omega) y e1 with ⟨m,rfl,g2,g3,g4⟩ | ⟨m,rfl,g⟩
 ·cases e2;exact ⟨by omega,j6 c1,g4⟩
 ·cases e2;omega
noncomputable def ki (x0:LDag) (x1:Int):Option (Int) :=
  cond (decide ((IntKind.wrap .i64 (x1-(x0.f0.size:Int)))<(0:Int)))
   (some ((-1:Int)))
   (cond (decide ((IntKind.wrap .i64 ((IntKind.wrap .i64 (x1-(x0.f0.size:Int)))-(x0.f1.size:Int)))<(0:Int)))
    (some ((-1:Int)))
    (if Wf.wf x0.f5 then cond (decide ((cF x0.f5 (IntKind.wrap .i64 ((IntKind.wrap .i64 (x1-(x0.f0.size:Int)))-(x0.f1.size:Int))))<(0:Int)))
     (some ((-1:Int)))
     (some (cF x0.f5 (IntKind.wrap .i64 ((IntKind.wrap .i64 (x1-(x0.f0.size:Int)))-(x0.f1.size:Int))))) else none))
theorem Db {q0:Kd} (x0:LDag) (x1:Int):Ans (ki x0 x1) (fun r=>Does E 8 [.agg (LDag.t .far q0 x0),.one (tI x1)] [(false,[tI r])]):=by
 unfold ki
 apply Ie<;>intro h0
 ·exact Ib (DP Tryz.f8 [.no,.b true] (AC h0<|AN))
 ·apply Ie<;>intro h1
  ·exact Ib (DP Tryz.f8 [.no,.b false,.no,.b true] (AC h0<|AC h1<|AN))
  ·refine Ig (fun h2 => ?_)
   apply Ie<;>intro h3
   ·exact Ib (DP Tryz.f8 [.no,.b false,.no,.b false,.ret [(false,[tI (cF x0.f5 (IntKind.wrap .i64 ((IntKind.wrap .i64 (x1-(x0.f0.size:Int)))-(x0.f1.size:Int))))])],.b true] (AC h0<|AC h1<|AV (ψ:=fun k=>E.C k 25 [.one (.s .far () 5 (x0.f5.map (GTask.t q0))),.one (tI (IntKind.wrap .i64 ((IntKind.wrap .i64 (x1-(x0.f0.size:Int)))-(x0.f1.size:Int))))]=some [(false,[tI (cF x0.f5 (IntKind.wrap .i64 ((IntKind.wrap .i64 (x1-(x0.f0.size:Int)))-(x0.f1.size:Int))))])]) (r7 x0.f5 (IntKind.wrap .i64 ((IntKind.wrap .i64 (x1-(x0.f0.size:Int)))-(x0.f1.size:Int))) h2)<|AC h3<|AN))
   ·exact Ib (DP Tryz.f8 [.no,.b false,.no,.b false,.ret [(false,[tI (cF x0.f5 (IntKind.wrap .i64 ((IntKind.wrap .i64 (x1-(x0.f0.size:Int)))-(x0.f1.size:Int))))])],.b false] (AC h0<|AC h1<|AV (ψ:=fun k=>E.C k 25 [.one (.s .far () 5 (x0.f5.map (GTask.t q0))),.one (tI (IntKind.wrap .i64 ((IntKind.wrap .i64 (x1-(x0.f0.size:Int)))-(x0.f1.size:Int))))]=some [(false,[tI (cF x0.f5 (IntKind.wrap .i64 ((IntKind.wrap .i64 (x1-(x0.f0.size:Int)))-(x0.f1.size:Int))))])]) (r7 x0.f5 (IntKind.wrap .i64 ((IntKind.wrap .i64 (x1-(x0.f0.size:Int)))-(x0.f1.size:Int))) h2)<|AC h3<|AN))
noncomputable def co (x:LDag) (n:Int):Int:=(ki x n).getD (-1)
theorem sT (x:LDag) (n:Int) (h:Wf.wf x):ki x n=some (co x n):=by
 obtain ⟨w0,w1,w5⟩:=h
 refine Tot.getD ?_ _
 unfold ki
 repeat' (first | exact Tot.some _ | apply Tot.cond | refine Tot.ite (by assumption) ?_)
theorem l3 {q0:Kd} (x0:LDag) (x1:Int) (h:Wf.wf x0):Does E 8 [.agg (LDag.t .far q0 x0),.one (tI x1)] [(false,[tI (co x0 x1)])]:=by
 exact Db x0 x1 _ (sT x0 x1 h)
theorem B8 (x:LDag) (n:Int) (hw:Wf.wf x) (h0:0≤n) (h1:n≤1048576) (h:0≤co x n):co x n≤n∧an.sm x:=by
 have e:=sT x n hw
 obtain ⟨w0,w1,w5⟩:=hw
 generalize co x n=r at *
 unfold ki at e
 obtain ⟨a1,e⟩:=l9 e h
 obtain ⟨b1,c1⟩:=pP (n:=n) (k:=x.f0.size) h0 (by omega) w0 a1
 generalize IntKind.wrap .i64 (n-(x.f0.size:Int))=m1 at *
 obtain ⟨a2,e⟩:=l9 e h
 obtain ⟨b2,c2⟩:=pP (n:=m1) (k:=x.f1.size) a1 (by omega) w1 a2
 generalize IntKind.wrap .i64 (m1-(x.f1.size:Int))=m2 at *
 try rw [if_pos w5] at e
 obtain ⟨a3,e⟩:=l9 e h
 try rw [if_pos w5] at e
 obtain ⟨b3,c3⟩:=yA x.f5 m2 w5 a2 (by omega) a3
 generalize cF x.f5 m2=m3 at *
 cases e
 exact ⟨by omega,⟨j6 c1,j6 c2,c3⟩⟩
inductive oP where
 | x0 (v3:List ByteArray)
def iZ (v0 v3:List ByteArray) (v4:Int):US:=stL 22 [(0,.one (.s .far () 1 (v0.map etS))),(3,.one (.s .own () 1 (v3.map etS))),(4,.one (tI v4))]
def jX (zv3:List ByteArray):US:=stL 22 [(3,.one (.s .own () 1 (zv3.map etS)))]
abbrev oO:US→Exit→US→Prop:=Round E 67 (au Tryz.f67 0)
def vj (v0 v3:List ByteArray) (v4:Int):oP→Prop
 | .x0 zv3=>Loops E 67 (au Tryz.f67 0) (iZ v0 v3 v4) (.exit 0) (jX zv3)
noncomputable def dr  : List ByteArray→Nat→(List ByteArray)→Option oP
 | [],i,v3=>some (.x0 v3)
 | hd::rest,i,v3=>(aL v3 (i:Int)).bind fun g1=>dr rest (i+1) (v3.set (i:Int).toNat hd)
theorem vi (v0:List ByteArray) (rest:List ByteArray):∀ (i:Nat) (v3:List ByteArray),(v0).drop i=rest→v0.length≤9223372036854775807→Ans (dr rest i v3) (vj v0 v3 (i:Int)):=by
 induction rest with
 | nil =>
  intro i v3 hE hl
  have hb:=bq hE
  unfold dr
  exact Ib (Id (show oO (iZ v0 v3 (i:Int)) (.exit 0) (jX v3) from RP [.val (.int .i64 (v0.length:Int)),.b false] (ALn v0 etS<|AC hb<|AN)) (by intro h;cases h))
 | cons hd rest ih =>
  intro i v3 hE hl
  have hb:=a8 hE
  have hw:=ba hE hl
  have hE2:=aG hE
  have hg:=bd hE
  unfold dr
  refine If (fun g1 h2 => ?_)
  exact (ih (i+1) (v3.set (i:Int).toNat hd) hE2 hl).mono fun y hy=>by have r:oO (iZ v0 v3 (i:Int)) .normal (iZ v0 (v3.set (i:Int).toNat hd) (inc (i:Int))):=RP [.val (.int .i64 (v0.length:Int)),.b true,.row (etS hd),.row (etS g1),.rows ((v3.set (i:Int).toNat hd).map etS)] (ALn v0 etS<|AC hb<|AR etS hg<|AG etS h2<|AC (p:=(v3.map etS).set (0+(i:Int).toNat) (ar (etS g1) 0 [tS hd])=(v3.set (i:Int).toNat hd).map etS) (ge (by rfl))<|AN);rw [hw] at r;cases y<;>exact Ic r hy
noncomputable def mo (x0:List ByteArray):Option ((List ByteArray)) :=
  if 0≤(x0.length:Int)∧(x0.length:Int)≤(x0.length:Int)∧((16:Nat):Int)*(x0.length:Int)≤281474976710656∧(x0.length:Int)≤4611686018427387904 then if x0.length≤9223372036854775807 then (dr x0 0 (List.replicate (x0.length:Int).toNat ByteArray.empty)).bind fun y=>match y with
   | .x0 w0_3=>(some (w0_3)) else none else none
theorem wG (x0:List ByteArray):Ans (mo x0) (fun r=>Does E 67 [.one (.s .far () 1 (x0.map etS))] [(false,[.s .own () 1 (r.map etS)])]):=by
 unfold mo
 refine Ig (fun h0 => ?_)
 refine Ig (fun hl1 => ?_)
 refine If (fun y hy => ?_)
 replace hy:=vi x0 x0 0 (List.replicate (x0.length:Int).toNat ByteArray.empty) rfl hl1 y hy
 cases y with
 | x0 w0_3 =>
  have h1:=hy
  exact Ib (DP Tryz.f67 [.val (.int .i64 (x0.length:Int)),.rows ((List.replicate (x0.length:Int).toNat ByteArray.empty).map etS),.lp (.exit 0) (jX w0_3)] (ALn x0 etS<|AC h0<|AC (p:=List.replicate (x0.length:Int).toNat [tS ByteArray.empty]=(List.replicate (x0.length:Int).toNat ByteArray.empty).map etS) (oU rfl)<|AL h1<|AN))
def jI (l:List ByteArray):List ByteArray:=l
theorem oy:∀ (rest:List ByteArray) (i:Nat) (v:List ByteArray),(∀ y∈rest,an.sm y)→v.length=i+rest.length→dr rest i v=some (.x0 (v.take i++rest))
 | [],i,v,_,hv=>by unfold dr;rw [List.take_of_length_le (by simp at hv;omega)];simp
 | x::rest,i,v,h,hv=>by
  have hx:=h x (by simp)
  have hi:i<v.length:=by simp at hv;omega
  unfold dr
  rw [fJ,List.getElem?_eq_getElem hi,Option.bind_some]
  try rw [if_pos hx]
  rw [Int.toNat_natCast,oy rest (i+1) _ (fun y hy=>h y (by simp [hy])) (by simp at hv ⊢;omega),Bh hi]
  simp
theorem wt (x0:List ByteArray) (h:an.sm x0):Does E 67 [.one (.s .far () 1 (x0.map etS))] [(false,[.s .own () 1 ((jI x0).map etS)])]:=by
 exact wG x0 _ (by
  unfold mo
  rw [if_pos (Dg 16 (by decide) h.1 rfl),if_pos (nR h),oy x0 0 _ h.2 (by simp)]
  simp [jI])
noncomputable def pA (x0:GTask):Option (GTask) :=
  if an.sm x0.f4 then some ((GTask.mk x0.f0 x0.f1 x0.f2 x0.f3 (jI x0.f4))) else none
theorem B7 (x0:GTask):Ans (pA x0) (fun r=>Does E 43 [.agg (GTask.t .far x0)] [(true,GTask.t .own r)]):=by
 unfold pA
 refine Ig (fun h0 => ?_)
 exact Ib (DP Tryz.f43 [.ret [(false,[.s .own () 1 ((jI x0.f4).map etS)])]] (AD (wt x0.f4 h0)<|AN))
def cJ (x:GTask):GTask:=x
theorem Bn (x0:GTask) (h:an.sm x0):Does E 43 [.agg (GTask.t .far x0)] [(true,GTask.t .own (cJ x0))]:=by
 obtain ⟨w0,w1,w4⟩:=h
 exact B7 x0 _ (by
  unfold pA
  repeat rw [if_pos (by assumption)]
  rfl)
inductive ro where
 | x0 (v3:List GTask)
def kM (q0:Kd) (v0 v3:List GTask) (v4:Int):US:=stL 23 [(0,.one (.s .far () 5 (v0.map (GTask.t q0)))),(3,.one (.s .own () 5 (v3.map (GTask.t .own)))),(4,.one (tI v4))]
def ln (q0:Kd) (zv3:List GTask):US:=stL 23 [(3,.one (.s .own () 5 (zv3.map (GTask.t .own))))]
abbrev rn:US→Exit→US→Prop:=Round E 27 (au Tryz.f27 0)
def yz {q0:Kd} (v0 v3:List GTask) (v4:Int):ro→Prop
 | .x0 zv3=>Loops E 27 (au Tryz.f27 0) (kM q0 v0 v3 v4) (.exit 0) (ln q0 zv3)
noncomputable def ea  : List GTask→Nat→(List GTask)→Option ro
 | [],i,v3=>some (.x0 v3)
 | hd::rest,i,v3=>if an.sm hd then (aL v3 (i:Int)).bind fun g1=>ea rest (i+1) (v3.set (i:Int).toNat (cJ hd)) else none
theorem yy {q0:Kd} (v0:List GTask) (rest:List GTask):∀ (i:Nat) (v3:List GTask),(v0).drop i=rest→v0.length≤9223372036854775807→Ans (ea rest i v3) (yz (q0:=q0) v0 v3 (i:Int)):=by
 induction rest with
 | nil =>
  intro i v3 hE hl
  have hb:=bq hE
  unfold ea
  exact Ib (Id (show rn (kM q0 v0 v3 (i:Int)) (.exit 0) (ln q0 v3) from RP [.val (.int .i64 (v0.length:Int)),.b false] (ALn v0 (GTask.t q0)<|AC hb<|AN)) (by intro h;cases h))
 | cons hd rest ih =>
  intro i v3 hE hl
  have hb:=a8 hE
  have hw:=ba hE hl
  have hE2:=aG hE
  have hg:=bd hE
  unfold ea
  refine Ig (fun h2 => ?_)
  refine If (fun g1 h3 => ?_)
  exact (ih (i+1) (v3.set (i:Int).toNat (cJ hd)) hE2 hl).mono fun y hy=>by have r:rn (kM q0 v0 v3 (i:Int)) .normal (kM q0 v0 (v3.set (i:Int).toNat (cJ hd)) (inc (i:Int))):=RP [.val (.int .i64 (v0.length:Int)),.b true,.row ((GTask.t q0) hd),.ret [(true,GTask.t .own (cJ hd))],.row ((GTask.t .own) g1),.rows ((v3.set (i:Int).toNat (cJ hd)).map (GTask.t .own))] (ALn v0 (GTask.t q0)<|AC hb<|AR (GTask.t q0) hg<|AD (Bn hd h2)<|AG (GTask.t .own) h3<|AC (p:=(v3.map (GTask.t .own)).set (0+(i:Int).toNat) (ar ((GTask.t .own) g1) 0 [tS ((cJ hd).f0),tS ((cJ hd).f1),tI ((cJ hd).f2),tB ((cJ hd).f3),.s .own () 1 (((cJ hd).f4).map etS)])=(v3.set (i:Int).toNat (cJ hd)).map (GTask.t .own)) (ge (by rfl))<|AN);rw [hw] at r;cases y<;>exact Ic r hy
noncomputable def og (x0:List GTask):Option ((List GTask)) :=
  if 0≤(x0.length:Int)∧(x0.length:Int)≤(x0.length:Int)∧((72:Nat):Int)*(x0.length:Int)≤281474976710656∧(x0.length:Int)≤4611686018427387904 then if x0.length≤9223372036854775807 then (ea x0 0 (List.replicate (x0.length:Int).toNat (GTask.mk ByteArray.empty ByteArray.empty (0:Int) false ([]:List ByteArray)))).bind fun y=>match y with
   | .x0 w0_3=>(some (w0_3)) else none else none
theorem Ao {q0:Kd} (x0:List GTask):Ans (og x0) (fun r=>Does E 27 [.one (.s .far () 5 (x0.map (GTask.t q0)))] [(false,[.s .own () 5 (r.map (GTask.t .own))])]):=by
 unfold og
 refine Ig (fun h0 => ?_)
 refine Ig (fun hl1 => ?_)
 refine If (fun y hy => ?_)
 replace hy:=yy (q0:=q0) x0 x0 0 (List.replicate (x0.length:Int).toNat (GTask.mk ByteArray.empty ByteArray.empty (0:Int) false ([]:List ByteArray))) rfl hl1 y hy
 cases y with
 | x0 w0_3 =>
  have h1:=hy
  exact Ib (DP Tryz.f27 [.val (.int .i64 (x0.length:Int)),.rows ((List.replicate (x0.length:Int).toNat (GTask.mk ByteArray.empty ByteArray.empty (0:Int) false ([]:List ByteArray))).map (GTask.t .own)),.lp (.exit 0) (ln q0 w0_3)] (ALn x0 (GTask.t q0)<|AC h0<|AC (p:=List.replicate (x0.length:Int).toNat [tS ByteArray.empty,tS ByteArray.empty,tI (0:Int),tB false,.s .own () 1 (([]:List ByteArray).map etS)]=(List.replicate (x0.length:Int).toNat (GTask.mk ByteArray.empty ByteArray.empty (0:Int) false ([]:List ByteArray))).map (GTask.t .own)) (oU rfl)<|AL h1<|AN))
def gV (l:List GTask):List GTask:=l
theorem qz:∀ (rest:List GTask) (i:Nat) (v:List GTask),(∀ y∈rest,an.sm y)→v.length=i+rest.length→ea rest i v=some (.x0 (v.take i++rest))
 | [],i,v,_,hv=>by unfold ea;rw [List.take_of_length_le (by simp at hv;omega)];simp
 | x::rest,i,v,h,hv=>by
  have hx:=h x (by simp)
  have hi:i<v.length:=by simp at hv;omega
  unfold ea
  rw [fJ,List.getElem?_eq_getElem hi,Option.bind_some]
  try rw [if_pos hx]
  rw [Int.toNat_natCast,qz rest (i+1) _ (fun y hy=>h y (by simp [hy])) (by simp at hv ⊢;omega),Bh hi]
  simp [cJ]
theorem zG {q0:Kd} (x0:List GTask) (h:an.sm x0):Does E 27 [.one (.s .far () 5 (x0.map (GTask.t q0)))] [(false,[.s .own () 5 ((gV x0).map (GTask.t .own))])]:=by
 exact Ao x0 _ (by
  unfold og
  rw [if_pos (Dg 72 (by decide) h.1 rfl),if_pos (nR h),qz x0 0 _ h.2 (by simp)]
  simp [gV])
noncomputable def rm (x0:LDag):Option (GDag) :=
  if an.sm x0.f5 then some ((GDag.mk x0.f0 x0.f1 x0.f2 x0.f3 x0.f4 (gV x0.f5))) else none
theorem Dd {q0:Kd} (x0:LDag):Ans (rm x0) (fun r=>Does E 10 [.agg (LDag.t .far q0 x0)] [(true,GDag.t .own .own r)]):=by
 unfold rm
 refine Ig (fun h0 => ?_)
 exact Ib (DP Tryz.f10 [.ret [(false,[.s .own () 5 ((gV x0.f5).map (GTask.t .own))])]] (AV (ψ:=fun k=>E.C k 27 [.one (.s .far () 5 (x0.f5.map (GTask.t q0)))]=some [(false,[.s .own () 5 ((gV x0.f5).map (GTask.t .own))])]) (zG x0.f5 h0)<|AN))
def ah (x:LDag):GDag:=⟨x.f0,x.f1,x.f2,x.f3,x.f4,gV x.f5⟩
theorem Cp {x:LDag} (h:an.sm x):an.sm (ah x):=by
 obtain ⟨w0,w1,w5⟩:=h
 exact ⟨w0,w1,w5⟩
theorem eJ {q0:Kd} (x0:LDag) (h:an.sm x0):Does E 10 [.agg (LDag.t .far q0 x0)] [(true,GDag.t .own .own (ah x0))]:=by
 obtain ⟨w0,w1,w5⟩:=h
 exact Dd x0 _ (by
  unfold rm
  repeat rw [if_pos (by assumption)]
  rfl)
inductive oM where
 | ret (v4:Bool)
 | x0 
def eS (v0 v1:List ByteArray) (v5:Int):US:=stL 26 [(0,.one (.s .far () 1 (v0.map etS))),(1,.one (.s .far () 1 (v1.map etS))),(5,.one (tI v5))]
def jn (zv4:Bool):US:=stL 26 [(4,.one (tB zv4))]
def jV  : US:=stL 26 []
abbrev lj:US→Exit→US→Prop:=Round E 75 (au Tryz.f75 0)
def vf (v0 v1:List ByteArray) (v5:Int):oM→Prop
 | .ret zv4=>Loops E 75 (au Tryz.f75 0) (eS v0 v1 v5) .ret (jn zv4)
 | .x0=>Loops E 75 (au Tryz.f75 0) (eS v0 v1 v5) (.exit 0) (jV)
noncomputable def dU (v1:List ByteArray):List ByteArray→Nat→Option oM
 | [],i=>some (.x0)
 | hd::rest,i=>(aL v1 (i:Int)).bind fun g1=>cond (!(hd.toList==g1.toList))
  (some (.ret false))
  (dU v1 rest (i+1))
theorem ve (v0 v1:List ByteArray) (rest:List ByteArray):∀ (i:Nat) ,(v0).drop i=rest→v0.length≤9223372036854775807→Ans (dU v1 rest i) (vf v0 v1 (i:Int)):=by
 induction rest with
 | nil =>
  intro i hE hl
  have hb:=bq hE
  unfold dU
  exact Ib (Id (show lj (eS v0 v1 (i:Int)) (.exit 0) (jV) from RP [.val (.int .i64 (v0.length:Int)),.b false] (ALn v0 etS<|AC hb<|AN)) (by intro h;cases h))
 | cons hd rest ih =>
  intro i hE hl
  have hb:=a8 hE
  have hw:=ba hE hl
  have hE2:=aG hE
  have hg:=bd hE
  unfold dU
  refine If (fun g1 h2 => ?_)
  apply Ie<;>intro h3
  ·exact Ib (Id (show lj (eS v0 v1 (i:Int)) .ret (jn false) from RP [.val (.int .i64 (v0.length:Int)),.b true,.row (etS hd),.row (etS g1),.b true] (ALn v0 etS<|AC hb<|AR etS hg<|AR etS h2<|AC h3<|AN)) (by intro h;cases h))
  ·exact (ih (i+1) hE2 hl).mono fun y hy=>by have r:lj (eS v0 v1 (i:Int)) .normal (eS v0 v1 (inc (i:Int))):=RP [.val (.int .i64 (v0.length:Int)),.b true,.row (etS hd),.row (etS g1),.b false] (ALn v0 etS<|AC hb<|AR etS hg<|AR etS h2<|AC h3<|AN);rw [hw] at r;cases y<;>exact Ic r hy
noncomputable def mn (x0 x1:List ByteArray):Option (Bool) :=
  cond ((x0.length:Int) != (x1.length:Int))
   (some (false))
   (if x0.length≤9223372036854775807 then (dU x1 x0 0).bind fun y=>match y with
    | .ret w0_4=>(some (w0_4))
    | .x0=>(some (true)) else none)
theorem wE (x0 x1:List ByteArray):Ans (mn x0 x1) (fun r=>Does E 75 [.one (.s .far () 1 (x0.map etS)),.one (.s .far () 1 (x1.map etS))] [(false,[tB r])]):=by
 unfold mn
 apply Ie<;>intro h0
 ·exact Ib (DP Tryz.f75 [.val (.int .i64 (x0.length:Int)),.val (.int .i64 (x1.length:Int)),.b true] (ALn x0 etS<|ALn x1 etS<|AC h0<|AN))
 ·refine Ig (fun hl2 => ?_)
  refine If (fun y hy => ?_)
  replace hy:=ve x0 x1 x0 0 rfl hl2 y hy
  cases y with
  | ret w0_4 =>
   have h1:=hy
   exact Ib (DP Tryz.f75 [.val (.int .i64 (x0.length:Int)),.val (.int .i64 (x1.length:Int)),.b false,.lp .ret (jn w0_4)] (ALn x0 etS<|ALn x1 etS<|AC h0<|AL h1<|AN))
  | x0 =>
   have h1:=hy
   exact Ib (DP Tryz.f75 [.val (.int .i64 (x0.length:Int)),.val (.int .i64 (x1.length:Int)),.b false,.lp (.exit 0) (jV)] (ALn x0 etS<|ALn x1 etS<|AC h0<|AL h1<|AN))
theorem oA (l:List ByteArray):∀ (rest:List ByteArray) (i:Nat),l.drop i=rest→(∀ y∈rest,an.sm y)→dU l rest i=some .x0
 | [],i,_,_=>rfl
 | x::rest,i,hE,h=>by
  have hx:=h x (by simp)
  unfold dU
  rw [bd hE,Option.bind_some]
  simp only [hx,if_true,yes,bne_self_eq_false,BEq.rfl,Bool.not_true,cond_false,cond_true]
  exact oA l rest (i+1) (aG hE) (fun y hy=>h y (by simp [hy]))
theorem pT (x0:List ByteArray) (x1:List ByteArray) (e:x0=x1) (h:an.sm x0):Does E 75 [.one (.s .far () 1 (x0.map etS)),.one (.s .far () 1 (x1.map etS))] [(false,[tB (yes x0 x1)])]:=by
 subst e
 exact wE x0 x0 _ (by
  unfold mn
  rw [if_pos (nR h),oA x0 x0 0 rfl h.2]
  simp [yes])
noncomputable def pz (x0 x1:GTask):Option (Bool) :=
  cond (!(x0.f0.toList==x1.f0.toList))
   (some (false))
   (cond (!(x0.f1.toList==x1.f1.toList))
    (some (false))
    (cond (x0.f2 != x1.f2)
     (some (false))
     (cond (!(x0.f3==x1.f3))
      (some (false))
      (if x0.f4=x1.f4 then if an.sm x0.f4 then cond (yes x0.f4 x1.f4)
       (some (true))
       (some (false)) else none else none))))
theorem B5 (x0 x1:GTask):Ans (pz x0 x1) (fun r=>Does E 54 [.agg (GTask.t .far x0),.agg (GTask.t .far x1)] [(false,[tB r])]):=by
 unfold pz
 apply Ie<;>intro h0
 ·exact Ib (DP Tryz.f54 [.b true] (AC h0<|AN))
 ·apply Ie<;>intro h1
  ·exact Ib (DP Tryz.f54 [.b false,.b true] (AC h0<|AC h1<|AN))
  ·apply Ie<;>intro h2
   ·exact Ib (DP Tryz.f54 [.b false,.b false,.b true] (AC h0<|AC h1<|AC h2<|AN))
   ·apply Ie<;>intro h3
    ·exact Ib (DP Tryz.f54 [.b false,.b false,.b false,.b true] (AC h0<|AC h1<|AC h2<|AC h3<|AN))
    ·refine Ig (fun h4 => ?_)
     refine Ig (fun h5 => ?_)
     apply Ie<;>intro h6
     ·exact Ib (DP Tryz.f54 [.b false,.b false,.b false,.b false,rT] (AC h0<|AC h1<|AC h2<|AC h3<|AD (Ij (pT x0.f4 x1.f4 h4 h5) h6)<|AN))
     ·exact Ib (DP Tryz.f54 [.b false,.b false,.b false,.b false,rF] (AC h0<|AC h1<|AC h2<|AC h3<|AD (Ij (pT x0.f4 x1.f4 h4 h5) h6)<|AN))
theorem tG (x0:GTask) (x1:GTask) (e:x0=x1) (h:an.sm x0):Does E 54 [.agg (GTask.t .far x0),.agg (GTask.t .far x1)] [(false,[tB (yes x0 x1)])]:=by
 subst e
 obtain ⟨w0,w1,w4⟩:=h
 exact B5 x0 x0 _ (by
  unfold pz
  simp only [w4,if_true,yes,bne_self_eq_false,BEq.rfl,Bool.not_true,cond_false,cond_true])
inductive rk where
 | ret (v4:Bool)
 | x0 
def fV (q0:Kd) (q1:Kd) (v0 v1:List GTask) (v5:Int):US:=stL 27 [(0,.one (.s .far () 5 (v0.map (GTask.t q0)))),(1,.one (.s .far () 5 (v1.map (GTask.t q1)))),(5,.one (tI v5))]
def kK (q0:Kd) (q1:Kd) (zv4:Bool):US:=stL 27 [(4,.one (tB zv4))]
def lk (q0:Kd) (q1:Kd)  : US:=stL 27 []
abbrev na:US→Exit→US→Prop:=Round E 31 (au Tryz.f31 0)
def yu {q0:Kd} {q1:Kd} (v0 v1:List GTask) (v5:Int):rk→Prop
 | .ret zv4=>Loops E 31 (au Tryz.f31 0) (fV q0 q1 v0 v1 v5) .ret (kK q0 q1 zv4)
 | .x0=>Loops E 31 (au Tryz.f31 0) (fV q0 q1 v0 v1 v5) (.exit 0) (lk q0 q1)
noncomputable def fa (v1:List GTask):List GTask→Nat→Option rk
 | [],i=>some (.x0)
 | hd::rest,i=>(aL v1 (i:Int)).bind fun g1=>if hd=g1 then if an.sm hd then cond (yes hd g1)
  (fa v1 rest (i+1))
  (some (.ret false)) else none else none
theorem yt {q0:Kd} {q1:Kd} (v0 v1:List GTask) (rest:List GTask):∀ (i:Nat) ,(v0).drop i=rest→v0.length≤9223372036854775807→Ans (fa v1 rest i) (yu (q0:=q0) (q1:=q1) v0 v1 (i:Int)):=by
 induction rest with
 | nil =>
  intro i hE hl
  have hb:=bq hE
  unfold fa
  exact Ib (Id (show na (fV q0 q1 v0 v1 (i:Int)) (.exit 0) (lk q0 q1) from RP [.val (.int .i64 (v0.length:Int)),.b false] (ALn v0 (GTask.t q0)<|AC hb<|AN)) (by intro h;cases h))
 | cons hd rest ih =>
  intro i hE hl
  have hb:=a8 hE
  have hw:=ba hE hl
  have hE2:=aG hE
  have hg:=bd hE
  unfold fa
  refine If (fun g1 h2 => ?_)
  refine Ig (fun h3 => ?_)
  refine Ig (fun h4 => ?_)
  apply Ie<;>intro h5
  ·exact (ih (i+1) hE2 hl).mono fun y hy=>by have r:na (fV q0 q1 v0 v1 (i:Int)) .normal (fV q0 q1 v0 v1 (inc (i:Int))):=RP [.val (.int .i64 (v0.length:Int)),.b true,.row ((GTask.t q0) hd),.row ((GTask.t q1) g1),rT] (ALn v0 (GTask.t q0)<|AC hb<|AR (GTask.t q0) hg<|AR (GTask.t q1) h2<|AD (Ij (tG hd g1 h3 h4) h5)<|AN);rw [hw] at r;cases y<;>exact Ic r hy
  ·exact Ib (Id (show na (fV q0 q1 v0 v1 (i:Int)) .ret (kK q0 q1 false) from RP [.val (.int .i64 (v0.length:Int)),.b true,.row ((GTask.t q0) hd),.row ((GTask.t q1) g1),rF] (ALn v0 (GTask.t q0)<|AC hb<|AR (GTask.t q0) hg<|AR (GTask.t q1) h2<|AD (Ij (tG hd g1 h3 h4) h5)<|AN)) (by intro h;cases h))
noncomputable def of (x0 x1:List GTask):Option (Bool) :=
  cond ((x0.length:Int) != (x1.length:Int))
   (some (false))
   (if x0.length≤9223372036854775807 then (fa x1 x0 0).bind fun y=>match y with
    | .ret w0_4=>(some (w0_4))
    | .x0=>(some (true)) else none)
theorem Al {q0:Kd} {q1:Kd} (x0 x1:List GTask):Ans (of x0 x1) (fun r=>Does E 31 [.one (.s .far () 5 (x0.map (GTask.t q0))),.one (.s .far () 5 (x1.map (GTask.t q1)))] [(false,[tB r])]):=by
 unfold of
 apply Ie<;>intro h0
 ·exact Ib (DP Tryz.f31 [.val (.int .i64 (x0.length:Int)),.val (.int .i64 (x1.length:Int)),.b true] (ALn x0 (GTask.t q0)<|ALn x1 (GTask.t q1)<|AC h0<|AN))
 ·refine Ig (fun hl2 => ?_)
  refine If (fun y hy => ?_)
  replace hy:=yt (q0:=q0) (q1:=q1) x0 x1 x0 0 rfl hl2 y hy
  cases y with
  | ret w0_4 =>
   have h1:=hy
   exact Ib (DP Tryz.f31 [.val (.int .i64 (x0.length:Int)),.val (.int .i64 (x1.length:Int)),.b false,.lp .ret (kK q0 q1 w0_4)] (ALn x0 (GTask.t q0)<|ALn x1 (GTask.t q1)<|AC h0<|AL h1<|AN))
  | x0 =>
   have h1:=hy
   exact Ib (DP Tryz.f31 [.val (.int .i64 (x0.length:Int)),.val (.int .i64 (x1.length:Int)),.b false,.lp (.exit 0) (lk q0 q1)] (ALn x0 (GTask.t q0)<|ALn x1 (GTask.t q1)<|AC h0<|AL h1<|AN))
theorem qC (l:List GTask):∀ (rest:List GTask) (i:Nat),l.drop i=rest→(∀ y∈rest,an.sm y)→fa l rest i=some .x0
 | [],i,_,_=>rfl
 | x::rest,i,hE,h=>by
  have hx:=h x (by simp)
  unfold fa
  rw [bd hE,Option.bind_some]
  simp only [hx,if_true,yes,bne_self_eq_false,BEq.rfl,Bool.not_true,cond_false,cond_true]
  exact qC l rest (i+1) (aG hE) (fun y hy=>h y (by simp [hy]))
theorem r6 {q0:Kd} {q1:Kd} (x0:List GTask) (x1:List GTask) (e:x0=x1) (h:an.sm x0):Does E 31 [.one (.s .far () 5 (x0.map (GTask.t q0))),.one (.s .far () 5 (x1.map (GTask.t q1)))] [(false,[tB (yes x0 x1)])]:=by
 subst e
 exact Al x0 x0 _ (by
  unfold of
  rw [if_pos (nR h),qC x0 x0 0 rfl h.2]
  simp [yes])
noncomputable def rj (x0 x1:GDag):Option (Bool) :=
  cond (!(x0.f0.toList==x1.f0.toList))
   (some (false))
   (cond (!(x0.f1.toList==x1.f1.toList))
    (some (false))
    (cond (x0.f2 != x1.f2)
     (some (false))
     (cond (x0.f3 != x1.f3)
      (some (false))
      (cond (!(x0.f4==x1.f4))
       (some (false))
       (if x0.f5=x1.f5 then if an.sm x0.f5 then cond (yes x0.f5 x1.f5)
        (some (true))
        (some (false)) else none else none)))))
theorem Da {q0:Kd} {q1:Kd} (x0 x1:GDag):Ans (rj x0 x1) (fun r=>Does E 12 [.agg (GDag.t .far q0 x0),.agg (GDag.t .far q1 x1)] [(false,[tB r])]):=by
 unfold rj
 apply Ie<;>intro h0
 ·exact Ib (DP Tryz.f12 [.b true] (AC h0<|AN))
 ·apply Ie<;>intro h1
  ·exact Ib (DP Tryz.f12 [.b false,.b true] (AC h0<|AC h1<|AN))
  ·apply Ie<;>intro h2
   ·exact Ib (DP Tryz.f12 [.b false,.b false,.b true] (AC h0<|AC h1<|AC h2<|AN))
   ·apply Ie<;>intro h3
    ·exact Ib (DP Tryz.f12 [.b false,.b false,.b false,.b true] (AC h0<|AC h1<|AC h2<|AC h3<|AN))
    ·apply Ie<;>intro h4
     ·exact Ib (DP Tryz.f12 [.b false,.b false,.b false,.b false,.b true] (AC h0<|AC h1<|AC h2<|AC h3<|AC h4<|AN))
     ·refine Ig (fun h5 => ?_)
      refine Ig (fun h6 => ?_)
      apply Ie<;>intro h7
      ·exact Ib (DP Tryz.f12 [.b false,.b false,.b false,.b false,.b false,rT] (AC h0<|AC h1<|AC h2<|AC h3<|AC h4<|AV (ψ:=fun k=>E.C k 31 [.one (.s .far () 5 (x0.f5.map (GTask.t q0))),.one (.s .far () 5 (x1.f5.map (GTask.t q1)))]=some [(false,[tB true])]) (Ih (r6 x0.f5 x1.f5 h5 h6) (by rw [h7]))<|AN))
      ·exact Ib (DP Tryz.f12 [.b false,.b false,.b false,.b false,.b false,rF] (AC h0<|AC h1<|AC h2<|AC h3<|AC h4<|AV (ψ:=fun k=>E.C k 31 [.one (.s .far () 5 (x0.f5.map (GTask.t q0))),.one (.s .far () 5 (x1.f5.map (GTask.t q1)))]=some [(false,[tB false])]) (Ih (r6 x0.f5 x1.f5 h5 h6) (by rw [h7]))<|AN))
theorem vF {q0:Kd} {q1:Kd} (x0:GDag) (x1:GDag) (e:x0=x1) (h:an.sm x0):Does E 12 [.agg (GDag.t .far q0 x0),.agg (GDag.t .far q1 x1)] [(false,[tB (yes x0 x1)])]:=by
 subst e
 obtain ⟨w0,w1,w5⟩:=h
 exact Da x0 x0 _ (by
  unfold rj
  simp only [w5,if_true,yes,bne_self_eq_false,BEq.rfl,Bool.not_true,cond_false,cond_true])
end Go.Proofs.YtjfbofdmjihglaaGreatDoor.Am
