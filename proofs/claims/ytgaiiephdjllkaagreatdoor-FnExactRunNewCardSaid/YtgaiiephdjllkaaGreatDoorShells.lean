/- What the functions that measure, copy and compare plans and runs do. -/
import Derived.Test.YtgaiiephdjllkaaGreatDoorPlans
namespace Go.Proofs.YtgaiiephdjllkaaGreatDoor.Am
open Go Go.Proofs Classical
set_option maxRecDepth 100000
set_option linter.unusedVariables false
set_option linter.unusedSimpArgs false
inductive qb where
 | ret (v4:Int)
 | x0 (v1:Int)
def fG (v0:List ByteArray) (v1 v5:Int):US:=stL 28 [(0,.one (.s .far () 1 (v0.map etS))),(1,.one (tI v1)),(5,.one (tI v5))]
def ke (zv4:Int):US:=stL 28 [(4,.one (tI zv4))]
def kU (zv1:Int):US:=stL 28 [(1,.one (tI zv1))]
abbrev mc:US→Exit→US→Prop:=Round E 65 (av Tryz.f65 0)
def wZ (v0:List ByteArray) (v1 v5:Int):qb→Prop
 | .ret zv4=>Loops E 65 (av Tryz.f65 0) (fG v0 v1 v5) .ret (ke zv4)
 | .x0 zv1=>Loops E 65 (av Tryz.f65 0) (fG v0 v1 v5) (.exit 0) (kU zv1)
noncomputable def c7  : List ByteArray→Nat→Int→Option qb
 | [],i,v1=>some (.x0 v1)
 | hd::rest,i,v1=>cond (decide ((IntKind.wrap .i64 (v1-(hd.size:Int)))<(0:Int)))
  (some (.ret (-1:Int)))
  (c7 rest (i+1) (IntKind.wrap .i64 (v1-(hd.size:Int))))
theorem wY (v0:List ByteArray) (rest:List ByteArray):∀ (i:Nat) (v1:Int),(v0).drop i=rest→v0.length≤9223372036854775807→Ans (c7 rest i v1) (wZ v0 v1 (i:Int)):=by
 induction rest with
 | nil =>
  intro i v1 hE hl
  have hb:=bG hE
  unfold c7
  exact JG (JI (show mc (fG v0 v1 (i:Int)) (.exit 0) (kU v1) from RP [.val (.int .i64 (v0.length:Int)),.b false] (ALn v0 etS<|AC hb<|AN)) (by intro h;cases h))
 | cons hd rest ih =>
  intro i v1 hE hl
  have hb:=bm hE
  have hw:=bn hE hl
  have hE2:=aK hE
  have hg:=bo hE
  unfold c7
  apply JJ<;>intro h2
  ·exact JG (JI (show mc (fG v0 v1 (i:Int)) .ret (ke (-1:Int)) from RP [.val (.int .i64 (v0.length:Int)),.b true,.row (etS hd),.no,.b true] (ALn v0 etS<|AC hb<|AR etS hg<|AC h2<|AN)) (by intro h;cases h))
  ·exact (ih (i+1) (IntKind.wrap .i64 (v1-(hd.size:Int))) hE2 hl).mono fun y hy=>by have r:mc (fG v0 v1 (i:Int)) .normal (fG v0 (IntKind.wrap .i64 (v1-(hd.size:Int))) (inc (i:Int))):=RP [.val (.int .i64 (v0.length:Int)),.b true,.row (etS hd),.no,.b false] (ALn v0 etS<|AC hb<|AR etS hg<|AC h2<|AN);rw [hw] at r;cases y<;>exact JH r hy
noncomputable def fZ (x0:List ByteArray) (x1:Int):Option (Int) :=
  cond (decide ((IntKind.wrap .i64 (x1-(x0.length:Int)))<(0:Int)))
   (some ((-1:Int)))
   (if x0.length≤9223372036854775807 then (c7 x0 0 (IntKind.wrap .i64 (x1-(x0.length:Int)))).bind fun y=>match y with
    | .ret w0_4=>(some (w0_4))
    | .x0 w0_1=>(some (w0_1)) else none)
theorem yv (x0:List ByteArray) (x1:Int):Ans (fZ x0 x1) (fun r=>Does E 65 [.one (.s .far () 1 (x0.map etS)),.one (tI x1)] [(false,[tI r])]):=by
 unfold fZ
 apply JJ<;>intro h0
 ·exact JG (DP Tryz.f65 [.val (.int .i64 (x0.length:Int)),.no,.b true] (ALn x0 etS<|AC h0<|AN))
 ·refine JL (fun hl2 => ?_)
  refine JK (fun y hy => ?_)
  replace hy:=wY x0 x0 0 (IntKind.wrap .i64 (x1-(x0.length:Int))) rfl hl2 y hy
  cases y with
  | ret w0_4 =>
   have h1:=hy
   exact JG (DP Tryz.f65 [.val (.int .i64 (x0.length:Int)),.no,.b false,.lp .ret (ke w0_4)] (ALn x0 etS<|AC h0<|AL h1<|AN))
  | x0 w0_1 =>
   have h1:=hy
   exact JG (DP Tryz.f65 [.val (.int .i64 (x0.length:Int)),.no,.b false,.lp (.exit 0) (kU w0_1)] (ALn x0 etS<|AC h0<|AL h1<|AN))
noncomputable def cX (x:List ByteArray) (n:Int):Int:=(fZ x n).getD (-1)
theorem qo:∀ (rest:List ByteArray) (i:Nat) (n:Int),(∀ y∈rest,Wf.wf y)→Tot (c7 rest i n)
 | [],i,n,_=>Tot.some _
 | x::rest,i,n,h=>by
  have hx:=h x (by simp)
  have ih:=fun i n=>qo rest i n fun y hy=>h y (by simp [hy])
  unfold c7
  repeat' (first | exact Tot.some _ | exact ih _ _ | apply Tot.cond | refine Tot.ite (by assumption) ?_)
theorem o6 (x:List ByteArray) (n:Int) (h:Wf.wf x):fZ x n=some (cX x n):=by
 refine Tot.getD ?_ _
 unfold fZ
 refine Tot.cond (Tot.some _) ?_
 refine Tot.ite h.1 (Tot.bind (qo x 0 _ h.2) fun y hy => ?_)
 cases y<;>exact Tot.some _
theorem rn (x0:List ByteArray) (x1:Int) (h:Wf.wf x0):Does E 65 [.one (.s .far () 1 (x0.map etS)),.one (tI x1)] [(false,[tI (cX x0 x1)])]:=by
 exact yv x0 x1 _ (o6 x0 x1 h)
theorem oU:∀ (rest:List ByteArray) (i:Nat) (n:Int),(∀ y∈rest,Wf.wf y)→0≤n→n≤1048576→∀ y,c7 rest i n=some y →
  (∃ m,y = .x0 m∧0≤m∧m≤n∧∀ z∈rest,ak.sm z)∨∃ m,y = .ret m∧m<0
 | [],i,n,_,h0,h1,y,e=>by cases e;exact .inl ⟨n,rfl,h0,Int.le_refl _,fun z hz=>by cases hz⟩
 | x::rest,i,n,h,h0,h1,y,e=>by
  have hx:=h x (by simp)
  unfold c7 at e
  try rw [if_pos hx] at e
  by_cases q:IntKind.wrap .i64 (n-(x.size:Int))<0
  ·rw [decide_eq_true q,cond_true] at e
   cases e
   exact .inr ⟨_,rfl,by omega⟩
  ·rw [decide_eq_false q,cond_false] at e
   try rw [if_pos hx] at e
   obtain ⟨b,c⟩:=ri h0 h1 hx (by omega)
   rcases oU rest _ _ (fun y hy=>h y (by simp [hy])) (by omega) (by omega) y e with ⟨m,g1,g2,g3,g4⟩ | g
   ·refine .inl ⟨m,g1,g2,by omega,fun z hz => ?_⟩
    rcases List.mem_cons.1 hz with rfl | hz
    ·exact kZ c
    ·exact g4 z hz
   ·exact .inr g
theorem w8 (x:List ByteArray) (n:Int) (hw:Wf.wf x) (h0:0≤n) (h1:n≤1048576) (h:0≤cX x n):cX x n≤n∧ak.sm x:=by
 have e:=o6 x n hw
 generalize cX x n=r at *
 unfold fZ at e
 obtain ⟨a1,e⟩:=mT e h
 obtain ⟨b1,c1⟩:=ri (n:=n) (k:=x.length) h0 h1 hw.1 a1
 rw [if_pos hw.1,Option.bind_eq_some_iff] at e
 obtain ⟨y,e1,e2⟩:=e
 rcases oU x 0 _ hw.2 a1 (by omega) y e1 with ⟨m,rfl,g2,g3,g4⟩ | ⟨m,rfl,g⟩
 ·cases e2;exact ⟨by omega,kZ c1,g4⟩
 ·cases e2;omega
noncomputable def jJ (x0:GTask) (x1:Int):Option (Int) :=
  cond (decide ((IntKind.wrap .i64 (x1-(x0.f0.size:Int)))<(0:Int)))
   (some ((-1:Int)))
   (cond (decide ((IntKind.wrap .i64 ((IntKind.wrap .i64 (x1-(x0.f0.size:Int)))-(x0.f1.size:Int)))<(0:Int)))
    (some ((-1:Int)))
    (if Wf.wf x0.f4 then cond (decide ((cX x0.f4 (IntKind.wrap .i64 ((IntKind.wrap .i64 (x1-(x0.f0.size:Int)))-(x0.f1.size:Int))))<(0:Int)))
     (some ((-1:Int)))
     (some (cX x0.f4 (IntKind.wrap .i64 ((IntKind.wrap .i64 (x1-(x0.f0.size:Int)))-(x0.f1.size:Int))))) else none))
theorem DS (x0:GTask) (x1:Int):Ans (jJ x0 x1) (fun r=>Does E 42 [.agg (GTask.t .far x0),.one (tI x1)] [(false,[tI r])]):=by
 unfold jJ
 apply JJ<;>intro h0
 ·exact JG (DP Tryz.f42 [.no,.b true] (AC h0<|AN))
 ·apply JJ<;>intro h1
  ·exact JG (DP Tryz.f42 [.no,.b false,.no,.b true] (AC h0<|AC h1<|AN))
  ·refine JL (fun h2 => ?_)
   apply JJ<;>intro h3
   ·exact JG (DP Tryz.f42 [.no,.b false,.no,.b false,.ret [(false,[tI (cX x0.f4 (IntKind.wrap .i64 ((IntKind.wrap .i64 (x1-(x0.f0.size:Int)))-(x0.f1.size:Int))))])],.b true] (AC h0<|AC h1<|AD (rn x0.f4 (IntKind.wrap .i64 ((IntKind.wrap .i64 (x1-(x0.f0.size:Int)))-(x0.f1.size:Int))) h2)<|AC h3<|AN))
   ·exact JG (DP Tryz.f42 [.no,.b false,.no,.b false,.ret [(false,[tI (cX x0.f4 (IntKind.wrap .i64 ((IntKind.wrap .i64 (x1-(x0.f0.size:Int)))-(x0.f1.size:Int))))])],.b false] (AC h0<|AC h1<|AD (rn x0.f4 (IntKind.wrap .i64 ((IntKind.wrap .i64 (x1-(x0.f0.size:Int)))-(x0.f1.size:Int))) h2)<|AC h3<|AN))
noncomputable def dD (x:GTask) (n:Int):Int:=(jJ x n).getD (-1)
theorem tz (x:GTask) (n:Int) (h:Wf.wf x):jJ x n=some (dD x n):=by
 obtain ⟨w0,w1,w4⟩:=h
 refine Tot.getD ?_ _
 unfold jJ
 repeat' (first | exact Tot.some _ | apply Tot.cond | refine Tot.ite (by assumption) ?_)
theorem ve (x0:GTask) (x1:Int) (h:Wf.wf x0):Does E 42 [.agg (GTask.t .far x0),.one (tI x1)] [(false,[tI (dD x0 x1)])]:=by
 exact DS x0 x1 _ (tz x0 x1 h)
theorem Ce (x:GTask) (n:Int) (hw:Wf.wf x) (h0:0≤n) (h1:n≤1048576) (h:0≤dD x n):dD x n≤n∧ak.sm x:=by
 have e:=tz x n hw
 obtain ⟨w0,w1,w4⟩:=hw
 generalize dD x n=r at *
 unfold jJ at e
 obtain ⟨a1,e⟩:=mT e h
 obtain ⟨b1,c1⟩:=ri (n:=n) (k:=x.f0.size) h0 (by omega) w0 a1
 generalize IntKind.wrap .i64 (n-(x.f0.size:Int))=m1 at *
 obtain ⟨a2,e⟩:=mT e h
 obtain ⟨b2,c2⟩:=ri (n:=m1) (k:=x.f1.size) a1 (by omega) w1 a2
 generalize IntKind.wrap .i64 (m1-(x.f1.size:Int))=m2 at *
 try rw [if_pos w4] at e
 obtain ⟨a3,e⟩:=mT e h
 try rw [if_pos w4] at e
 obtain ⟨b3,c3⟩:=w8 x.f4 m2 w4 a2 (by omega) a3
 generalize cX x.f4 m2=m3 at *
 cases e
 exact ⟨by omega,⟨kZ c1,kZ c2,c3⟩⟩
inductive sW where
 | ret (v4:Int)
 | x0 (v1:Int)
def gO (q0:Kd) (v0:List GTask) (v1 v5:Int):US:=stL 27 [(0,.one (.s .far () 5 (v0.map (GTask.t q0)))),(1,.one (tI v1)),(5,.one (tI v5))]
def lJ (q0:Kd) (zv4:Int):US:=stL 27 [(4,.one (tI zv4))]
def md (q0:Kd) (zv1:Int):US:=stL 27 [(1,.one (tI zv1))]
abbrev og:US→Exit→US→Prop:=Round E 22 (av Tryz.f22 0)
def Al {q0:Kd} (v0:List GTask) (v1 v5:Int):sW→Prop
 | .ret zv4=>Loops E 22 (av Tryz.f22 0) (gO q0 v0 v1 v5) .ret (lJ q0 zv4)
 | .x0 zv1=>Loops E 22 (av Tryz.f22 0) (gO q0 v0 v1 v5) (.exit 0) (md q0 zv1)
noncomputable def ea  : List GTask→Nat→Int→Option sW
 | [],i,v1=>some (.x0 v1)
 | hd::rest,i,v1=>if Wf.wf hd then cond (decide ((dD hd v1)<(0:Int)))
  (some (.ret (-1:Int)))
  (ea rest (i+1) (dD hd v1)) else none
theorem Ak {q0:Kd} (v0:List GTask) (rest:List GTask):∀ (i:Nat) (v1:Int),(v0).drop i=rest→v0.length≤9223372036854775807→Ans (ea rest i v1) (Al (q0:=q0) v0 v1 (i:Int)):=by
 induction rest with
 | nil =>
  intro i v1 hE hl
  have hb:=bG hE
  unfold ea
  exact JG (JI (show og (gO q0 v0 v1 (i:Int)) (.exit 0) (md q0 v1) from RP [.val (.int .i64 (v0.length:Int)),.b false] (ALn v0 (GTask.t q0)<|AC hb<|AN)) (by intro h;cases h))
 | cons hd rest ih =>
  intro i v1 hE hl
  have hb:=bm hE
  have hw:=bn hE hl
  have hE2:=aK hE
  have hg:=bo hE
  unfold ea
  refine JL (fun h2 => ?_)
  apply JJ<;>intro h3
  ·exact JG (JI (show og (gO q0 v0 v1 (i:Int)) .ret (lJ q0 (-1:Int)) from RP [.val (.int .i64 (v0.length:Int)),.b true,.row ((GTask.t q0) hd),.ret [(false,[tI (dD hd v1)])],.b true] (ALn v0 (GTask.t q0)<|AC hb<|AR (GTask.t q0) hg<|AD (ve hd v1 h2)<|AC h3<|AN)) (by intro h;cases h))
  ·exact (ih (i+1) (dD hd v1) hE2 hl).mono fun y hy=>by have r:og (gO q0 v0 v1 (i:Int)) .normal (gO q0 v0 (dD hd v1) (inc (i:Int))):=RP [.val (.int .i64 (v0.length:Int)),.b true,.row ((GTask.t q0) hd),.ret [(false,[tI (dD hd v1)])],.b false] (ALn v0 (GTask.t q0)<|AC hb<|AR (GTask.t q0) hg<|AD (ve hd v1 h2)<|AC h3<|AN);rw [hw] at r;cases y<;>exact JH r hy
noncomputable def iL (x0:List GTask) (x1:Int):Option (Int) :=
  cond (decide ((IntKind.wrap .i64 (x1-(x0.length:Int)))<(0:Int)))
   (some ((-1:Int)))
   (if x0.length≤9223372036854775807 then (ea x0 0 (IntKind.wrap .i64 (x1-(x0.length:Int)))).bind fun y=>match y with
    | .ret w0_4=>(some (w0_4))
    | .x0 w0_1=>(some (w0_1)) else none)
theorem Cc {q0:Kd} (x0:List GTask) (x1:Int):Ans (iL x0 x1) (fun r=>Does E 22 [.one (.s .far () 5 (x0.map (GTask.t q0))),.one (tI x1)] [(false,[tI r])]):=by
 unfold iL
 apply JJ<;>intro h0
 ·exact JG (DP Tryz.f22 [.val (.int .i64 (x0.length:Int)),.no,.b true] (ALn x0 (GTask.t q0)<|AC h0<|AN))
 ·refine JL (fun hl2 => ?_)
  refine JK (fun y hy => ?_)
  replace hy:=Ak (q0:=q0) x0 x0 0 (IntKind.wrap .i64 (x1-(x0.length:Int))) rfl hl2 y hy
  cases y with
  | ret w0_4 =>
   have h1:=hy
   exact JG (DP Tryz.f22 [.val (.int .i64 (x0.length:Int)),.no,.b false,.lp .ret (lJ q0 w0_4)] (ALn x0 (GTask.t q0)<|AC h0<|AL h1<|AN))
  | x0 w0_1 =>
   have h1:=hy
   exact JG (DP Tryz.f22 [.val (.int .i64 (x0.length:Int)),.no,.b false,.lp (.exit 0) (md q0 w0_1)] (ALn x0 (GTask.t q0)<|AC h0<|AL h1<|AN))
noncomputable def cY (x:List GTask) (n:Int):Int:=(iL x n).getD (-1)
theorem tw:∀ (rest:List GTask) (i:Nat) (n:Int),(∀ y∈rest,Wf.wf y)→Tot (ea rest i n)
 | [],i,n,_=>Tot.some _
 | x::rest,i,n,h=>by
  have hx:=h x (by simp)
  have ih:=fun i n=>tw rest i n fun y hy=>h y (by simp [hy])
  unfold ea
  repeat' (first | exact Tot.some _ | exact ih _ _ | apply Tot.cond | refine Tot.ite (by assumption) ?_)
theorem rO (x:List GTask) (n:Int) (h:Wf.wf x):iL x n=some (cY x n):=by
 refine Tot.getD ?_ _
 unfold iL
 refine Tot.cond (Tot.some _) ?_
 refine Tot.ite h.1 (Tot.bind (tw x 0 _ h.2) fun y hy => ?_)
 cases y<;>exact Tot.some _
theorem tP {q0:Kd} (x0:List GTask) (x1:Int) (h:Wf.wf x0):Does E 22 [.one (.s .far () 5 (x0.map (GTask.t q0))),.one (tI x1)] [(false,[tI (cY x0 x1)])]:=by
 exact Cc x0 x1 _ (rO x0 x1 h)
theorem rB:∀ (rest:List GTask) (i:Nat) (n:Int),(∀ y∈rest,Wf.wf y)→0≤n→n≤1048576→∀ y,ea rest i n=some y →
  (∃ m,y = .x0 m∧0≤m∧m≤n∧∀ z∈rest,ak.sm z)∨∃ m,y = .ret m∧m<0
 | [],i,n,_,h0,h1,y,e=>by cases e;exact .inl ⟨n,rfl,h0,Int.le_refl _,fun z hz=>by cases hz⟩
 | x::rest,i,n,h,h0,h1,y,e=>by
  have hx:=h x (by simp)
  unfold ea at e
  try rw [if_pos hx] at e
  by_cases q:dD x n<0
  ·rw [decide_eq_true q,cond_true] at e
   cases e
   exact .inr ⟨_,rfl,by omega⟩
  ·rw [decide_eq_false q,cond_false] at e
   try rw [if_pos hx] at e
   obtain ⟨b,c⟩:=Ce x n hx h0 h1 (by omega)
   rcases rB rest _ _ (fun y hy=>h y (by simp [hy])) (by omega) (by omega) y e with ⟨m,g1,g2,g3,g4⟩ | g
   ·refine .inl ⟨m,g1,g2,by omega,fun z hz => ?_⟩
    rcases List.mem_cons.1 hz with rfl | hz
    ·exact c
    ·exact g4 z hz
   ·exact .inr g
theorem Ap (x:List GTask) (n:Int) (hw:Wf.wf x) (h0:0≤n) (h1:n≤1048576) (h:0≤cY x n):cY x n≤n∧ak.sm x:=by
 have e:=rO x n hw
 generalize cY x n=r at *
 unfold iL at e
 obtain ⟨a1,e⟩:=mT e h
 obtain ⟨b1,c1⟩:=ri (n:=n) (k:=x.length) h0 h1 hw.1 a1
 rw [if_pos hw.1,Option.bind_eq_some_iff] at e
 obtain ⟨y,e1,e2⟩:=e
 rcases rB x 0 _ hw.2 a1 (by omega) y e1 with ⟨m,rfl,g2,g3,g4⟩ | ⟨m,rfl,g⟩
 ·cases e2;exact ⟨by omega,kZ c1,g4⟩
 ·cases e2;omega
noncomputable def lg (x0:LDag) (x1:Int):Option (Int) :=
  cond (decide ((IntKind.wrap .i64 (x1-(x0.f0.size:Int)))<(0:Int)))
   (some ((-1:Int)))
   (cond (decide ((IntKind.wrap .i64 ((IntKind.wrap .i64 (x1-(x0.f0.size:Int)))-(x0.f1.size:Int)))<(0:Int)))
    (some ((-1:Int)))
    (if Wf.wf x0.f5 then cond (decide ((cY x0.f5 (IntKind.wrap .i64 ((IntKind.wrap .i64 (x1-(x0.f0.size:Int)))-(x0.f1.size:Int))))<(0:Int)))
     (some ((-1:Int)))
     (some (cY x0.f5 (IntKind.wrap .i64 ((IntKind.wrap .i64 (x1-(x0.f0.size:Int)))-(x0.f1.size:Int))))) else none))
theorem Fc {q0:Kd} (x0:LDag) (x1:Int):Ans (lg x0 x1) (fun r=>Does E 6 [.agg (LDag.t .far q0 x0),.one (tI x1)] [(false,[tI r])]):=by
 unfold lg
 apply JJ<;>intro h0
 ·exact JG (DP Tryz.f6 [.no,.b true] (AC h0<|AN))
 ·apply JJ<;>intro h1
  ·exact JG (DP Tryz.f6 [.no,.b false,.no,.b true] (AC h0<|AC h1<|AN))
  ·refine JL (fun h2 => ?_)
   apply JJ<;>intro h3
   ·exact JG (DP Tryz.f6 [.no,.b false,.no,.b false,.ret [(false,[tI (cY x0.f5 (IntKind.wrap .i64 ((IntKind.wrap .i64 (x1-(x0.f0.size:Int)))-(x0.f1.size:Int))))])],.b true] (AC h0<|AC h1<|AV (ψ:=fun k=>E.C k 22 [.one (.s .far () 5 (x0.f5.map (GTask.t q0))),.one (tI (IntKind.wrap .i64 ((IntKind.wrap .i64 (x1-(x0.f0.size:Int)))-(x0.f1.size:Int))))]=some [(false,[tI (cY x0.f5 (IntKind.wrap .i64 ((IntKind.wrap .i64 (x1-(x0.f0.size:Int)))-(x0.f1.size:Int))))])]) (tP x0.f5 (IntKind.wrap .i64 ((IntKind.wrap .i64 (x1-(x0.f0.size:Int)))-(x0.f1.size:Int))) h2)<|AC h3<|AN))
   ·exact JG (DP Tryz.f6 [.no,.b false,.no,.b false,.ret [(false,[tI (cY x0.f5 (IntKind.wrap .i64 ((IntKind.wrap .i64 (x1-(x0.f0.size:Int)))-(x0.f1.size:Int))))])],.b false] (AC h0<|AC h1<|AV (ψ:=fun k=>E.C k 22 [.one (.s .far () 5 (x0.f5.map (GTask.t q0))),.one (tI (IntKind.wrap .i64 ((IntKind.wrap .i64 (x1-(x0.f0.size:Int)))-(x0.f1.size:Int))))]=some [(false,[tI (cY x0.f5 (IntKind.wrap .i64 ((IntKind.wrap .i64 (x1-(x0.f0.size:Int)))-(x0.f1.size:Int))))])]) (tP x0.f5 (IntKind.wrap .i64 ((IntKind.wrap .i64 (x1-(x0.f0.size:Int)))-(x0.f1.size:Int))) h2)<|AC h3<|AN))
noncomputable def bF (x:LDag) (n:Int):Int:=(lg x n).getD (-1)
theorem uv (x:LDag) (n:Int) (h:Wf.wf x):lg x n=some (bF x n):=by
 obtain ⟨w0,w1,w5⟩:=h
 refine Tot.getD ?_ _
 unfold lg
 repeat' (first | exact Tot.some _ | apply Tot.cond | refine Tot.ite (by assumption) ?_)
theorem gY {q0:Kd} (x0:LDag) (x1:Int) (h:Wf.wf x0):Does E 6 [.agg (LDag.t .far q0 x0),.one (tI x1)] [(false,[tI (bF x0 x1)])]:=by
 exact Fc x0 x1 _ (uv x0 x1 h)
theorem DW (x:LDag) (n:Int) (hw:Wf.wf x) (h0:0≤n) (h1:n≤1048576) (h:0≤bF x n):bF x n≤n∧ak.sm x:=by
 have e:=uv x n hw
 obtain ⟨w0,w1,w5⟩:=hw
 generalize bF x n=r at *
 unfold lg at e
 obtain ⟨a1,e⟩:=mT e h
 obtain ⟨b1,c1⟩:=ri (n:=n) (k:=x.f0.size) h0 (by omega) w0 a1
 generalize IntKind.wrap .i64 (n-(x.f0.size:Int))=m1 at *
 obtain ⟨a2,e⟩:=mT e h
 obtain ⟨b2,c2⟩:=ri (n:=m1) (k:=x.f1.size) a1 (by omega) w1 a2
 generalize IntKind.wrap .i64 (m1-(x.f1.size:Int))=m2 at *
 try rw [if_pos w5] at e
 obtain ⟨a3,e⟩:=mT e h
 try rw [if_pos w5] at e
 obtain ⟨b3,c3⟩:=Ap x.f5 m2 w5 a2 (by omega) a3
 generalize cY x.f5 m2=m3 at *
 cases e
 exact ⟨by omega,⟨kZ c1,kZ c2,c3⟩⟩
inductive qd where
 | x0 (v3:List ByteArray)
def jK (v0 v3:List ByteArray) (v4:Int):US:=stL 22 [(0,.one (.s .far () 1 (v0.map etS))),(3,.one (.s .own () 1 (v3.map etS))),(4,.one (tI v4))]
def kV (zv3:List ByteArray):US:=stL 22 [(3,.one (.s .own () 1 (zv3.map etS)))]
abbrev qc:US→Exit→US→Prop:=Round E 73 (av Tryz.f73 0)
def w7 (v0 v3:List ByteArray) (v4:Int):qd→Prop
 | .x0 zv3=>Loops E 73 (av Tryz.f73 0) (jK v0 v3 v4) (.exit 0) (kV zv3)
noncomputable def dS  : List ByteArray→Nat→(List ByteArray)→Option qd
 | [],i,v3=>some (.x0 v3)
 | hd::rest,i,v3=>(aN v3 (i:Int)).bind fun g1=>dS rest (i+1) (v3.set (i:Int).toNat hd)
theorem w6 (v0:List ByteArray) (rest:List ByteArray):∀ (i:Nat) (v3:List ByteArray),(v0).drop i=rest→v0.length≤9223372036854775807→Ans (dS rest i v3) (w7 v0 v3 (i:Int)):=by
 induction rest with
 | nil =>
  intro i v3 hE hl
  have hb:=bG hE
  unfold dS
  exact JG (JI (show qc (jK v0 v3 (i:Int)) (.exit 0) (kV v3) from RP [.val (.int .i64 (v0.length:Int)),.b false] (ALn v0 etS<|AC hb<|AN)) (by intro h;cases h))
 | cons hd rest ih =>
  intro i v3 hE hl
  have hb:=bm hE
  have hw:=bn hE hl
  have hE2:=aK hE
  have hg:=bo hE
  unfold dS
  refine JK (fun g1 h2 => ?_)
  exact (ih (i+1) (v3.set (i:Int).toNat hd) hE2 hl).mono fun y hy=>by have r:qc (jK v0 v3 (i:Int)) .normal (jK v0 (v3.set (i:Int).toNat hd) (inc (i:Int))):=RP [.val (.int .i64 (v0.length:Int)),.b true,.row (etS hd),.row (etS g1),.rows ((v3.set (i:Int).toNat hd).map etS)] (ALn v0 etS<|AC hb<|AR etS hg<|AG etS h2<|AC (p:=(v3.map etS).set (0+(i:Int).toNat) (ao (etS g1) 0 [tS hd])=(v3.set (i:Int).toNat hd).map etS) (eQ (by rfl))<|AN);rw [hw] at r;cases y<;>exact JH r hy
noncomputable def na (x0:List ByteArray):Option ((List ByteArray)) :=
  if 0≤(x0.length:Int)∧(x0.length:Int)≤(x0.length:Int)∧((16:Nat):Int)*(x0.length:Int)≤281474976710656∧(x0.length:Int)≤4611686018427387904 then if x0.length≤9223372036854775807 then (dS x0 0 (List.replicate (x0.length:Int).toNat ByteArray.empty)).bind fun y=>match y with
   | .x0 w0_3=>(some (w0_3)) else none else none
theorem yw (x0:List ByteArray):Ans (na x0) (fun r=>Does E 73 [.one (.s .far () 1 (x0.map etS))] [(false,[.s .own () 1 (r.map etS)])]):=by
 unfold na
 refine JL (fun h0 => ?_)
 refine JL (fun hl1 => ?_)
 refine JK (fun y hy => ?_)
 replace hy:=w6 x0 x0 0 (List.replicate (x0.length:Int).toNat ByteArray.empty) rfl hl1 y hy
 cases y with
 | x0 w0_3 =>
  have h1:=hy
  exact JG (DP Tryz.f73 [.val (.int .i64 (x0.length:Int)),.rows ((List.replicate (x0.length:Int).toNat ByteArray.empty).map etS),.lp (.exit 0) (kV w0_3)] (ALn x0 etS<|AC h0<|AC (p:=List.replicate (x0.length:Int).toNat [tS ByteArray.empty]=(List.replicate (x0.length:Int).toNat ByteArray.empty).map etS) (mR rfl)<|AL h1<|AN))
def kF (l:List ByteArray):List ByteArray:=l
theorem pK:∀ (rest:List ByteArray) (i:Nat) (v:List ByteArray),(∀ y∈rest,ak.sm y)→v.length=i+rest.length→dS rest i v=some (.x0 (v.take i++rest))
 | [],i,v,_,hv=>by unfold dS;rw [List.take_of_length_le (by simp at hv;omega)];simp
 | x::rest,i,v,h,hv=>by
  have hx:=h x (by simp)
  have hi:i<v.length:=by simp at hv;omega
  unfold dS
  rw [fN,List.getElem?_eq_getElem hi,Option.bind_some]
  try rw [if_pos hx]
  rw [Int.toNat_natCast,pK rest (i+1) _ (fun y hy=>h y (by simp [hy])) (by simp at hv ⊢;omega),CY hi]
  simp
theorem yb (x0:List ByteArray) (h:ak.sm x0):Does E 73 [.one (.s .far () 1 (x0.map etS))] [(false,[.s .own () 1 ((kF x0).map etS)])]:=by
 exact yw x0 _ (by
  unfold na
  rw [if_pos (Fg 16 (by decide) h.1 rfl),if_pos (hZ h),pK x0 0 _ h.2 (by simp)]
  simp [kF])
noncomputable def qV (x0:GTask):Option (GTask) :=
  if ak.sm x0.f4 then some ((GTask.mk x0.f0 x0.f1 x0.f2 x0.f3 (kF x0.f4))) else none
theorem DV (x0:GTask):Ans (qV x0) (fun r=>Does E 49 [.agg (GTask.t .far x0)] [(true,GTask.t .own r)]):=by
 unfold qV
 refine JL (fun h0 => ?_)
 exact JG (DP Tryz.f49 [.ret [(false,[.s .own () 1 ((kF x0.f4).map etS)])]] (AD (yb x0.f4 h0)<|AN))
def c8 (x:GTask):GTask:=x
theorem C5 (x0:GTask) (h:ak.sm x0):Does E 49 [.agg (GTask.t .far x0)] [(true,GTask.t .own (c8 x0))]:=by
 obtain ⟨w0,w1,w4⟩:=h
 exact DV x0 _ (by
  unfold qV
  repeat rw [if_pos (by assumption)]
  rfl)
inductive sZ where
 | x0 (v3:List GTask)
def lK (q0:Kd) (v0 v3:List GTask) (v4:Int):US:=stL 23 [(0,.one (.s .far () 5 (v0.map (GTask.t q0)))),(3,.one (.s .own () 5 (v3.map (GTask.t .own)))),(4,.one (tI v4))]
def me (q0:Kd) (zv3:List GTask):US:=stL 23 [(3,.one (.s .own () 5 (zv3.map (GTask.t .own))))]
abbrev sY:US→Exit→US→Prop:=Round E 25 (av Tryz.f25 0)
def Ao {q0:Kd} (v0 v3:List GTask) (v4:Int):sZ→Prop
 | .x0 zv3=>Loops E 25 (av Tryz.f25 0) (lK q0 v0 v3 v4) (.exit 0) (me q0 zv3)
noncomputable def eJ  : List GTask→Nat→(List GTask)→Option sZ
 | [],i,v3=>some (.x0 v3)
 | hd::rest,i,v3=>if ak.sm hd then (aN v3 (i:Int)).bind fun g1=>eJ rest (i+1) (v3.set (i:Int).toNat (c8 hd)) else none
theorem An {q0:Kd} (v0:List GTask) (rest:List GTask):∀ (i:Nat) (v3:List GTask),(v0).drop i=rest→v0.length≤9223372036854775807→Ans (eJ rest i v3) (Ao (q0:=q0) v0 v3 (i:Int)):=by
 induction rest with
 | nil =>
  intro i v3 hE hl
  have hb:=bG hE
  unfold eJ
  exact JG (JI (show sY (lK q0 v0 v3 (i:Int)) (.exit 0) (me q0 v3) from RP [.val (.int .i64 (v0.length:Int)),.b false] (ALn v0 (GTask.t q0)<|AC hb<|AN)) (by intro h;cases h))
 | cons hd rest ih =>
  intro i v3 hE hl
  have hb:=bm hE
  have hw:=bn hE hl
  have hE2:=aK hE
  have hg:=bo hE
  unfold eJ
  refine JL (fun h2 => ?_)
  refine JK (fun g1 h3 => ?_)
  exact (ih (i+1) (v3.set (i:Int).toNat (c8 hd)) hE2 hl).mono fun y hy=>by have r:sY (lK q0 v0 v3 (i:Int)) .normal (lK q0 v0 (v3.set (i:Int).toNat (c8 hd)) (inc (i:Int))):=RP [.val (.int .i64 (v0.length:Int)),.b true,.row ((GTask.t q0) hd),.ret [(true,GTask.t .own (c8 hd))],.row ((GTask.t .own) g1),.rows ((v3.set (i:Int).toNat (c8 hd)).map (GTask.t .own))] (ALn v0 (GTask.t q0)<|AC hb<|AR (GTask.t q0) hg<|AD (C5 hd h2)<|AG (GTask.t .own) h3<|AC (p:=(v3.map (GTask.t .own)).set (0+(i:Int).toNat) (ao ((GTask.t .own) g1) 0 [tS ((c8 hd).f0),tS ((c8 hd).f1),tI ((c8 hd).f2),tB ((c8 hd).f3),.s .own () 1 (((c8 hd).f4).map etS)])=(v3.set (i:Int).toNat (c8 hd)).map (GTask.t .own)) (eQ (by rfl))<|AN);rw [hw] at r;cases y<;>exact JH r hy
noncomputable def pq (x0:List GTask):Option ((List GTask)) :=
  if 0≤(x0.length:Int)∧(x0.length:Int)≤(x0.length:Int)∧((72:Nat):Int)*(x0.length:Int)≤281474976710656∧(x0.length:Int)≤4611686018427387904 then if x0.length≤9223372036854775807 then (eJ x0 0 (List.replicate (x0.length:Int).toNat (GTask.mk ByteArray.empty ByteArray.empty (0:Int) false ([]:List ByteArray)))).bind fun y=>match y with
   | .x0 w0_3=>(some (w0_3)) else none else none
theorem Cd {q0:Kd} (x0:List GTask):Ans (pq x0) (fun r=>Does E 25 [.one (.s .far () 5 (x0.map (GTask.t q0)))] [(false,[.s .own () 5 (r.map (GTask.t .own))])]):=by
 unfold pq
 refine JL (fun h0 => ?_)
 refine JL (fun hl1 => ?_)
 refine JK (fun y hy => ?_)
 replace hy:=An (q0:=q0) x0 x0 0 (List.replicate (x0.length:Int).toNat (GTask.mk ByteArray.empty ByteArray.empty (0:Int) false ([]:List ByteArray))) rfl hl1 y hy
 cases y with
 | x0 w0_3 =>
  have h1:=hy
  exact JG (DP Tryz.f25 [.val (.int .i64 (x0.length:Int)),.rows ((List.replicate (x0.length:Int).toNat (GTask.mk ByteArray.empty ByteArray.empty (0:Int) false ([]:List ByteArray))).map (GTask.t .own)),.lp (.exit 0) (me q0 w0_3)] (ALn x0 (GTask.t q0)<|AC h0<|AC (p:=List.replicate (x0.length:Int).toNat [tS ByteArray.empty,tS ByteArray.empty,tI (0:Int),tB false,.s .own () 1 (([]:List ByteArray).map etS)]=(List.replicate (x0.length:Int).toNat (GTask.mk ByteArray.empty ByteArray.empty (0:Int) false ([]:List ByteArray))).map (GTask.t .own)) (mR rfl)<|AL h1<|AN))
def iN (l:List GTask):List GTask:=l
theorem sa:∀ (rest:List GTask) (i:Nat) (v:List GTask),(∀ y∈rest,ak.sm y)→v.length=i+rest.length→eJ rest i v=some (.x0 (v.take i++rest))
 | [],i,v,_,hv=>by unfold eJ;rw [List.take_of_length_le (by simp at hv;omega)];simp
 | x::rest,i,v,h,hv=>by
  have hx:=h x (by simp)
  have hi:i<v.length:=by simp at hv;omega
  unfold eJ
  rw [fN,List.getElem?_eq_getElem hi,Option.bind_some]
  try rw [if_pos hx]
  rw [Int.toNat_natCast,sa rest (i+1) _ (fun y hy=>h y (by simp [hy])) (by simp at hv ⊢;omega),CY hi]
  simp [c8]
theorem Bz {q0:Kd} (x0:List GTask) (h:ak.sm x0):Does E 25 [.one (.s .far () 5 (x0.map (GTask.t q0)))] [(false,[.s .own () 5 ((iN x0).map (GTask.t .own))])]:=by
 exact Cd x0 _ (by
  unfold pq
  rw [if_pos (Fg 72 (by decide) h.1 rfl),if_pos (hZ h),sa x0 0 _ h.2 (by simp)]
  simp [iN])
noncomputable def sX (x0:LDag):Option (GDag) :=
  if ak.sm x0.f5 then some ((GDag.mk x0.f0 x0.f1 x0.f2 x0.f3 x0.f4 (iN x0.f5))) else none
theorem Fd {q0:Kd} (x0:LDag):Ans (sX x0) (fun r=>Does E 8 [.agg (LDag.t .far q0 x0)] [(true,GDag.t .own .own r)]):=by
 unfold sX
 refine JL (fun h0 => ?_)
 exact JG (DP Tryz.f8 [.ret [(false,[.s .own () 5 ((iN x0.f5).map (GTask.t .own))])]] (AV (ψ:=fun k=>E.C k 25 [.one (.s .far () 5 (x0.f5.map (GTask.t q0)))]=some [(false,[.s .own () 5 ((iN x0.f5).map (GTask.t .own))])]) (Bz x0.f5 h0)<|AN))
def aa (x:LDag):GDag:=⟨x.f0,x.f1,x.f2,x.f3,x.f4,iN x.f5⟩
theorem Ek {x:LDag} (h:ak.sm x):ak.sm (aa x):=by
 obtain ⟨w0,w1,w5⟩:=h
 exact ⟨w0,w1,w5⟩
theorem bP {q0:Kd} (x0:LDag) (h:ak.sm x0):Does E 8 [.agg (LDag.t .far q0 x0)] [(true,GDag.t .own .own (aa x0))]:=by
 obtain ⟨w0,w1,w5⟩:=h
 exact Fd x0 _ (by
  unfold sX
  repeat rw [if_pos (by assumption)]
  rfl)
inductive p8 where
 | ret (v4:Bool)
 | x0 
def fF (v0 v1:List ByteArray) (v5:Int):US:=stL 26 [(0,.one (.s .far () 1 (v0.map etS))),(1,.one (.s .far () 1 (v1.map etS))),(5,.one (tI v5))]
def j9 (zv4:Bool):US:=stL 26 [(4,.one (tB zv4))]
def kS  : US:=stL 26 []
abbrev l9:US→Exit→US→Prop:=Round E 82 (av Tryz.f82 0)
def wT (v0 v1:List ByteArray) (v5:Int):p8→Prop
 | .ret zv4=>Loops E 82 (av Tryz.f82 0) (fF v0 v1 v5) .ret (j9 zv4)
 | .x0=>Loops E 82 (av Tryz.f82 0) (fF v0 v1 v5) (.exit 0) (kS)
noncomputable def ew (v1:List ByteArray):List ByteArray→Nat→Option p8
 | [],i=>some (.x0)
 | hd::rest,i=>(aN v1 (i:Int)).bind fun g1=>cond (!(hd.toList==g1.toList))
  (some (.ret false))
  (ew v1 rest (i+1))
theorem wS (v0 v1:List ByteArray) (rest:List ByteArray):∀ (i:Nat) ,(v0).drop i=rest→v0.length≤9223372036854775807→Ans (ew v1 rest i) (wT v0 v1 (i:Int)):=by
 induction rest with
 | nil =>
  intro i hE hl
  have hb:=bG hE
  unfold ew
  exact JG (JI (show l9 (fF v0 v1 (i:Int)) (.exit 0) (kS) from RP [.val (.int .i64 (v0.length:Int)),.b false] (ALn v0 etS<|AC hb<|AN)) (by intro h;cases h))
 | cons hd rest ih =>
  intro i hE hl
  have hb:=bm hE
  have hw:=bn hE hl
  have hE2:=aK hE
  have hg:=bo hE
  unfold ew
  refine JK (fun g1 h2 => ?_)
  apply JJ<;>intro h3
  ·exact JG (JI (show l9 (fF v0 v1 (i:Int)) .ret (j9 false) from RP [.val (.int .i64 (v0.length:Int)),.b true,.row (etS hd),.row (etS g1),.b true] (ALn v0 etS<|AC hb<|AR etS hg<|AR etS h2<|AC h3<|AN)) (by intro h;cases h))
  ·exact (ih (i+1) hE2 hl).mono fun y hy=>by have r:l9 (fF v0 v1 (i:Int)) .normal (fF v0 v1 (inc (i:Int))):=RP [.val (.int .i64 (v0.length:Int)),.b true,.row (etS hd),.row (etS g1),.b false] (ALn v0 etS<|AC hb<|AR etS hg<|AR etS h2<|AC h3<|AN);rw [hw] at r;cases y<;>exact JH r hy
noncomputable def m9 (x0 x1:List ByteArray):Option (Bool) :=
  cond ((x0.length:Int) != (x1.length:Int))
   (some (false))
   (if x0.length≤9223372036854775807 then (ew x1 x0 0).bind fun y=>match y with
    | .ret w0_4=>(some (w0_4))
    | .x0=>(some (true)) else none)
theorem yq (x0 x1:List ByteArray):Ans (m9 x0 x1) (fun r=>Does E 82 [.one (.s .far () 1 (x0.map etS)),.one (.s .far () 1 (x1.map etS))] [(false,[tB r])]):=by
 unfold m9
 apply JJ<;>intro h0
 ·exact JG (DP Tryz.f82 [.val (.int .i64 (x0.length:Int)),.val (.int .i64 (x1.length:Int)),.b true] (ALn x0 etS<|ALn x1 etS<|AC h0<|AN))
 ·refine JL (fun hl2 => ?_)
  refine JK (fun y hy => ?_)
  replace hy:=wS x0 x1 x0 0 rfl hl2 y hy
  cases y with
  | ret w0_4 =>
   have h1:=hy
   exact JG (DP Tryz.f82 [.val (.int .i64 (x0.length:Int)),.val (.int .i64 (x1.length:Int)),.b false,.lp .ret (j9 w0_4)] (ALn x0 etS<|ALn x1 etS<|AC h0<|AL h1<|AN))
  | x0 =>
   have h1:=hy
   exact JG (DP Tryz.f82 [.val (.int .i64 (x0.length:Int)),.val (.int .i64 (x1.length:Int)),.b false,.lp (.exit 0) (kS)] (ALn x0 etS<|ALn x1 etS<|AC h0<|AL h1<|AN))
theorem pM (l:List ByteArray):∀ (rest:List ByteArray) (i:Nat),l.drop i=rest→(∀ y∈rest,ak.sm y)→ew l rest i=some .x0
 | [],i,_,_=>rfl
 | x::rest,i,hE,h=>by
  have hx:=h x (by simp)
  unfold ew
  rw [bo hE,Option.bind_some]
  simp only [hx,if_true,yes,bne_self_eq_false,BEq.rfl,Bool.not_true,cond_false,cond_true]
  exact pM l rest (i+1) (aK hE) (fun y hy=>h y (by simp [hy]))
theorem rm (x0:List ByteArray) (x1:List ByteArray) (e:x0=x1) (h:ak.sm x0):Does E 82 [.one (.s .far () 1 (x0.map etS)),.one (.s .far () 1 (x1.map etS))] [(false,[tB (yes x0 x1)])]:=by
 subst e
 exact yq x0 x0 _ (by
  unfold m9
  rw [if_pos (hZ h),pM x0 x0 0 rfl h.2]
  simp [yes])
noncomputable def qT (x0 x1:GTask):Option (Bool) :=
  cond (!(x0.f0.toList==x1.f0.toList))
   (some (false))
   (cond (!(x0.f1.toList==x1.f1.toList))
    (some (false))
    (cond (x0.f2 != x1.f2)
     (some (false))
     (cond (!(x0.f3==x1.f3))
      (some (false))
      (if x0.f4=x1.f4 then if ak.sm x0.f4 then cond (yes x0.f4 x1.f4)
       (some (true))
       (some (false)) else none else none))))
theorem DR (x0 x1:GTask):Ans (qT x0 x1) (fun r=>Does E 57 [.agg (GTask.t .far x0),.agg (GTask.t .far x1)] [(false,[tB r])]):=by
 unfold qT
 apply JJ<;>intro h0
 ·exact JG (DP Tryz.f57 [.b true] (AC h0<|AN))
 ·apply JJ<;>intro h1
  ·exact JG (DP Tryz.f57 [.b false,.b true] (AC h0<|AC h1<|AN))
  ·apply JJ<;>intro h2
   ·exact JG (DP Tryz.f57 [.b false,.b false,.b true] (AC h0<|AC h1<|AC h2<|AN))
   ·apply JJ<;>intro h3
    ·exact JG (DP Tryz.f57 [.b false,.b false,.b false,.b true] (AC h0<|AC h1<|AC h2<|AC h3<|AN))
    ·refine JL (fun h4 => ?_)
     refine JL (fun h5 => ?_)
     apply JJ<;>intro h6
     ·exact JG (DP Tryz.f57 [.b false,.b false,.b false,.b false,rT] (AC h0<|AC h1<|AC h2<|AC h3<|AD (JO (rm x0.f4 x1.f4 h4 h5) h6)<|AN))
     ·exact JG (DP Tryz.f57 [.b false,.b false,.b false,.b false,rF] (AC h0<|AC h1<|AC h2<|AC h3<|AD (JO (rm x0.f4 x1.f4 h4 h5) h6)<|AN))
theorem vc (x0:GTask) (x1:GTask) (e:x0=x1) (h:ak.sm x0):Does E 57 [.agg (GTask.t .far x0),.agg (GTask.t .far x1)] [(false,[tB (yes x0 x1)])]:=by
 subst e
 obtain ⟨w0,w1,w4⟩:=h
 exact DR x0 x0 _ (by
  unfold qT
  simp only [w4,if_true,yes,bne_self_eq_false,BEq.rfl,Bool.not_true,cond_false,cond_true])
inductive sV where
 | ret (v4:Bool)
 | x0 
def gN (q0:Kd) (q1:Kd) (v0 v1:List GTask) (v5:Int):US:=stL 27 [(0,.one (.s .far () 5 (v0.map (GTask.t q0)))),(1,.one (.s .far () 5 (v1.map (GTask.t q1)))),(5,.one (tI v5))]
def lH (q0:Kd) (q1:Kd) (zv4:Bool):US:=stL 27 [(4,.one (tB zv4))]
def mb (q0:Kd) (q1:Kd)  : US:=stL 27 []
abbrev oc:US→Exit→US→Prop:=Round E 31 (av Tryz.f31 0)
def Ai {q0:Kd} {q1:Kd} (v0 v1:List GTask) (v5:Int):sV→Prop
 | .ret zv4=>Loops E 31 (av Tryz.f31 0) (gN q0 q1 v0 v1 v5) .ret (lH q0 q1 zv4)
 | .x0=>Loops E 31 (av Tryz.f31 0) (gN q0 q1 v0 v1 v5) (.exit 0) (mb q0 q1)
noncomputable def fQ (v1:List GTask):List GTask→Nat→Option sV
 | [],i=>some (.x0)
 | hd::rest,i=>(aN v1 (i:Int)).bind fun g1=>if hd=g1 then if ak.sm hd then cond (yes hd g1)
  (fQ v1 rest (i+1))
  (some (.ret false)) else none else none
theorem Ah {q0:Kd} {q1:Kd} (v0 v1:List GTask) (rest:List GTask):∀ (i:Nat) ,(v0).drop i=rest→v0.length≤9223372036854775807→Ans (fQ v1 rest i) (Ai (q0:=q0) (q1:=q1) v0 v1 (i:Int)):=by
 induction rest with
 | nil =>
  intro i hE hl
  have hb:=bG hE
  unfold fQ
  exact JG (JI (show oc (gN q0 q1 v0 v1 (i:Int)) (.exit 0) (mb q0 q1) from RP [.val (.int .i64 (v0.length:Int)),.b false] (ALn v0 (GTask.t q0)<|AC hb<|AN)) (by intro h;cases h))
 | cons hd rest ih =>
  intro i hE hl
  have hb:=bm hE
  have hw:=bn hE hl
  have hE2:=aK hE
  have hg:=bo hE
  unfold fQ
  refine JK (fun g1 h2 => ?_)
  refine JL (fun h3 => ?_)
  refine JL (fun h4 => ?_)
  apply JJ<;>intro h5
  ·exact (ih (i+1) hE2 hl).mono fun y hy=>by have r:oc (gN q0 q1 v0 v1 (i:Int)) .normal (gN q0 q1 v0 v1 (inc (i:Int))):=RP [.val (.int .i64 (v0.length:Int)),.b true,.row ((GTask.t q0) hd),.row ((GTask.t q1) g1),rT] (ALn v0 (GTask.t q0)<|AC hb<|AR (GTask.t q0) hg<|AR (GTask.t q1) h2<|AD (JO (vc hd g1 h3 h4) h5)<|AN);rw [hw] at r;cases y<;>exact JH r hy
  ·exact JG (JI (show oc (gN q0 q1 v0 v1 (i:Int)) .ret (lH q0 q1 false) from RP [.val (.int .i64 (v0.length:Int)),.b true,.row ((GTask.t q0) hd),.row ((GTask.t q1) g1),rF] (ALn v0 (GTask.t q0)<|AC hb<|AR (GTask.t q0) hg<|AR (GTask.t q1) h2<|AD (JO (vc hd g1 h3 h4) h5)<|AN)) (by intro h;cases h))
noncomputable def pp (x0 x1:List GTask):Option (Bool) :=
  cond ((x0.length:Int) != (x1.length:Int))
   (some (false))
   (if x0.length≤9223372036854775807 then (fQ x1 x0 0).bind fun y=>match y with
    | .ret w0_4=>(some (w0_4))
    | .x0=>(some (true)) else none)
theorem B8 {q0:Kd} {q1:Kd} (x0 x1:List GTask):Ans (pp x0 x1) (fun r=>Does E 31 [.one (.s .far () 5 (x0.map (GTask.t q0))),.one (.s .far () 5 (x1.map (GTask.t q1)))] [(false,[tB r])]):=by
 unfold pp
 apply JJ<;>intro h0
 ·exact JG (DP Tryz.f31 [.val (.int .i64 (x0.length:Int)),.val (.int .i64 (x1.length:Int)),.b true] (ALn x0 (GTask.t q0)<|ALn x1 (GTask.t q1)<|AC h0<|AN))
 ·refine JL (fun hl2 => ?_)
  refine JK (fun y hy => ?_)
  replace hy:=Ah (q0:=q0) (q1:=q1) x0 x1 x0 0 rfl hl2 y hy
  cases y with
  | ret w0_4 =>
   have h1:=hy
   exact JG (DP Tryz.f31 [.val (.int .i64 (x0.length:Int)),.val (.int .i64 (x1.length:Int)),.b false,.lp .ret (lH q0 q1 w0_4)] (ALn x0 (GTask.t q0)<|ALn x1 (GTask.t q1)<|AC h0<|AL h1<|AN))
  | x0 =>
   have h1:=hy
   exact JG (DP Tryz.f31 [.val (.int .i64 (x0.length:Int)),.val (.int .i64 (x1.length:Int)),.b false,.lp (.exit 0) (mb q0 q1)] (ALn x0 (GTask.t q0)<|ALn x1 (GTask.t q1)<|AC h0<|AL h1<|AN))
theorem sf (l:List GTask):∀ (rest:List GTask) (i:Nat),l.drop i=rest→(∀ y∈rest,ak.sm y)→fQ l rest i=some .x0
 | [],i,_,_=>rfl
 | x::rest,i,hE,h=>by
  have hx:=h x (by simp)
  unfold fQ
  rw [bo hE,Option.bind_some]
  simp only [hx,if_true,yes,bne_self_eq_false,BEq.rfl,Bool.not_true,cond_false,cond_true]
  exact sf l rest (i+1) (aK hE) (fun y hy=>h y (by simp [hy]))
theorem tO {q0:Kd} {q1:Kd} (x0:List GTask) (x1:List GTask) (e:x0=x1) (h:ak.sm x0):Does E 31 [.one (.s .far () 5 (x0.map (GTask.t q0))),.one (.s .far () 5 (x1.map (GTask.t q1)))] [(false,[tB (yes x0 x1)])]:=by
 subst e
 exact B8 x0 x0 _ (by
  unfold pp
  rw [if_pos (hZ h),sf x0 x0 0 rfl h.2]
  simp [yes])
noncomputable def sT (x0 x1:GDag):Option (Bool) :=
  cond (!(x0.f0.toList==x1.f0.toList))
   (some (false))
   (cond (!(x0.f1.toList==x1.f1.toList))
    (some (false))
    (cond (x0.f2 != x1.f2)
     (some (false))
     (cond (x0.f3 != x1.f3)
      (some (false))
      (cond (!(x0.f4==x1.f4))
       (some (false))
       (if x0.f5=x1.f5 then if ak.sm x0.f5 then cond (yes x0.f5 x1.f5)
        (some (true))
        (some (false)) else none else none)))))
theorem Fa {q0:Kd} {q1:Kd} (x0 x1:GDag):Ans (sT x0 x1) (fun r=>Does E 12 [.agg (GDag.t .far q0 x0),.agg (GDag.t .far q1 x1)] [(false,[tB r])]):=by
 unfold sT
 apply JJ<;>intro h0
 ·exact JG (DP Tryz.f12 [.b true] (AC h0<|AN))
 ·apply JJ<;>intro h1
  ·exact JG (DP Tryz.f12 [.b false,.b true] (AC h0<|AC h1<|AN))
  ·apply JJ<;>intro h2
   ·exact JG (DP Tryz.f12 [.b false,.b false,.b true] (AC h0<|AC h1<|AC h2<|AN))
   ·apply JJ<;>intro h3
    ·exact JG (DP Tryz.f12 [.b false,.b false,.b false,.b true] (AC h0<|AC h1<|AC h2<|AC h3<|AN))
    ·apply JJ<;>intro h4
     ·exact JG (DP Tryz.f12 [.b false,.b false,.b false,.b false,.b true] (AC h0<|AC h1<|AC h2<|AC h3<|AC h4<|AN))
     ·refine JL (fun h5 => ?_)
      refine JL (fun h6 => ?_)
      apply JJ<;>intro h7
      ·exact JG (DP Tryz.f12 [.b false,.b false,.b false,.b false,.b false,rT] (AC h0<|AC h1<|AC h2<|AC h3<|AC h4<|AV (ψ:=fun k=>E.C k 31 [.one (.s .far () 5 (x0.f5.map (GTask.t q0))),.one (.s .far () 5 (x1.f5.map (GTask.t q1)))]=some [(false,[tB true])]) (JM (tO x0.f5 x1.f5 h5 h6) (by rw [h7]))<|AN))
      ·exact JG (DP Tryz.f12 [.b false,.b false,.b false,.b false,.b false,rF] (AC h0<|AC h1<|AC h2<|AC h3<|AC h4<|AV (ψ:=fun k=>E.C k 31 [.one (.s .far () 5 (x0.f5.map (GTask.t q0))),.one (.s .far () 5 (x1.f5.map (GTask.t q1)))]=some [(false,[tB false])]) (JM (tO x0.f5 x1.f5 h5 h6) (by rw [h7]))<|AN))
theorem mK {q0:Kd} {q1:Kd} (x0:GDag) (x1:GDag) (e:x0=x1) (h:ak.sm x0):Does E 12 [.agg (GDag.t .far q0 x0),.agg (GDag.t .far q1 x1)] [(false,[tB (yes x0 x1)])]:=by
 subst e
 obtain ⟨w0,w1,w5⟩:=h
 exact Fa x0 x0 _ (by
  unfold sT
  simp only [w5,if_true,yes,bne_self_eq_false,BEq.rfl,Bool.not_true,cond_false,cond_true])
end Go.Proofs.YtgaiiephdjllkaaGreatDoor.Am
namespace Go.Proofs.YtgaiiephdjllkaaGreatDoor.Am
open Go Go.Proofs Classical
set_option maxRecDepth 100000
set_option linter.unusedVariables false
set_option linter.unusedSimpArgs false
noncomputable def qU (x0:GSpan):Option (GSpan) :=
  some (x0)
theorem DU (x0:GSpan):Ans (qU x0) (fun r=>Does E 9 [.agg (GSpan.t x0)] [(true,GSpan.t r)]):=by
 unfold qU
 exact JG (DP Tryz.f9 [] AN)
def ab (x:GSpan):GSpan:=x
theorem cr (x0:GSpan) (h:ak.sm x0):Does E 9 [.agg (GSpan.t x0)] [(true,GSpan.t (ab x0))]:=by
 skip
 exact DU x0 _ (by
  unfold qU
  repeat rw [if_pos (by assumption)]
  rfl)
noncomputable def qS (x0 x1:GSpan):Option (Bool) :=
  cond (x0.f0 != x1.f0)
   (some (false))
   (cond (x0.f1 != x1.f1)
    (some (false))
    (some (true)))
theorem DQ (x0 x1:GSpan):Ans (qS x0 x1) (fun r=>Does E 29 [.agg (GSpan.t x0),.agg (GSpan.t x1)] [(false,[tB r])]):=by
 unfold qS
 apply JJ<;>intro h0
 ·exact JG (DP Tryz.f29 [.b true] (AC h0<|AN))
 ·apply JJ<;>intro h1
  ·exact JG (DP Tryz.f29 [.b false,.b true] (AC h0<|AC h1<|AN))
  ·exact JG (DP Tryz.f29 [.b false,.b false] (AC h0<|AC h1<|AN))
theorem nm (x0:GSpan) (x1:GSpan) (e:x0=x1) (h:ak.sm x0):Does E 29 [.agg (GSpan.t x0),.agg (GSpan.t x1)] [(false,[tB (yes x0 x1)])]:=by
 subst e
 skip
 exact DQ x0 x0 _ (by
  unfold qS
  simp only [if_true,yes,bne_self_eq_false,BEq.rfl,Bool.not_true,cond_false,cond_true])
noncomputable def po (x0 x1:GState):Option (Bool) :=
  cond (x0.f0 != x1.f0)
   (some (false))
   (cond (x0.f1 != x1.f1)
    (some (false))
    (cond (x0.f2 != x1.f2)
     (some (false))
     (cond (x0.f3 != x1.f3)
      (some (false))
      (some (true)))))
theorem B7 (x0 x1:GState):Ans (po x0 x1) (fun r=>Does E 56 [.agg (GState.t x0),.agg (GState.t x1)] [(false,[tB r])]):=by
 unfold po
 apply JJ<;>intro h0
 ·exact JG (DP Tryz.f56 [.b true] (AC h0<|AN))
 ·apply JJ<;>intro h1
  ·exact JG (DP Tryz.f56 [.b false,.b true] (AC h0<|AC h1<|AN))
  ·apply JJ<;>intro h2
   ·exact JG (DP Tryz.f56 [.b false,.b false,.b true] (AC h0<|AC h1<|AC h2<|AN))
   ·apply JJ<;>intro h3
    ·exact JG (DP Tryz.f56 [.b false,.b false,.b false,.b true] (AC h0<|AC h1<|AC h2<|AC h3<|AN))
    ·exact JG (DP Tryz.f56 [.b false,.b false,.b false,.b false] (AC h0<|AC h1<|AC h2<|AC h3<|AN))
theorem tN (x0:GState) (x1:GState) (e:x0=x1) (h:ak.sm x0):Does E 56 [.agg (GState.t x0),.agg (GState.t x1)] [(false,[tB (yes x0 x1)])]:=by
 subst e
 skip
 exact B7 x0 x0 _ (by
  unfold po
  simp only [if_true,yes,bne_self_eq_false,BEq.rfl,Bool.not_true,cond_false,cond_true])
inductive ry where
 | ret (v4:Bool)
 | x0 
def fY (v0 v1:List GState) (v5:Int):US:=stL 27 [(0,.one (.s .far () 4 (v0.map GState.t))),(1,.one (.s .far () 4 (v1.map GState.t))),(5,.one (tI v5))]
def kR (zv4:Bool):US:=stL 27 [(4,.one (tB zv4))]
def lG  : US:=stL 27 []
abbrev m8:US→Exit→US→Prop:=Round E 30 (av Tryz.f30 0)
def yn (v0 v1:List GState) (v5:Int):ry→Prop
 | .ret zv4=>Loops E 30 (av Tryz.f30 0) (fY v0 v1 v5) .ret (kR zv4)
 | .x0=>Loops E 30 (av Tryz.f30 0) (fY v0 v1 v5) (.exit 0) (lG)
noncomputable def fb (v1:List GState):List GState→Nat→Option ry
 | [],i=>some (.x0)
 | hd::rest,i=>(aN v1 (i:Int)).bind fun g1=>if hd=g1 then if ak.sm hd then cond (yes hd g1)
  (fb v1 rest (i+1))
  (some (.ret false)) else none else none
theorem ym (v0 v1:List GState) (rest:List GState):∀ (i:Nat) ,(v0).drop i=rest→v0.length≤9223372036854775807→Ans (fb v1 rest i) (yn v0 v1 (i:Int)):=by
 induction rest with
 | nil =>
  intro i hE hl
  have hb:=bG hE
  unfold fb
  exact JG (JI (show m8 (fY v0 v1 (i:Int)) (.exit 0) (lG) from RP [.val (.int .i64 (v0.length:Int)),.b false] (ALn v0 GState.t<|AC hb<|AN)) (by intro h;cases h))
 | cons hd rest ih =>
  intro i hE hl
  have hb:=bm hE
  have hw:=bn hE hl
  have hE2:=aK hE
  have hg:=bo hE
  unfold fb
  refine JK (fun g1 h2 => ?_)
  refine JL (fun h3 => ?_)
  refine JL (fun h4 => ?_)
  apply JJ<;>intro h5
  ·exact (ih (i+1) hE2 hl).mono fun y hy=>by have r:m8 (fY v0 v1 (i:Int)) .normal (fY v0 v1 (inc (i:Int))):=RP [.val (.int .i64 (v0.length:Int)),.b true,.row (GState.t hd),.row (GState.t g1),rT] (ALn v0 GState.t<|AC hb<|AR GState.t hg<|AR GState.t h2<|AD (JO (tN hd g1 h3 h4) h5)<|AN);rw [hw] at r;cases y<;>exact JH r hy
  ·exact JG (JI (show m8 (fY v0 v1 (i:Int)) .ret (kR false) from RP [.val (.int .i64 (v0.length:Int)),.b true,.row (GState.t hd),.row (GState.t g1),rF] (ALn v0 GState.t<|AC hb<|AR GState.t hg<|AR GState.t h2<|AD (JO (tN hd g1 h3 h4) h5)<|AN)) (by intro h;cases h))
noncomputable def ob (x0 x1:List GState):Option (Bool) :=
  cond ((x0.length:Int) != (x1.length:Int))
   (some (false))
   (if x0.length≤9223372036854775807 then (fb x1 x0 0).bind fun y=>match y with
    | .ret w0_4=>(some (w0_4))
    | .x0=>(some (true)) else none)
theorem Ag (x0 x1:List GState):Ans (ob x0 x1) (fun r=>Does E 30 [.one (.s .far () 4 (x0.map GState.t)),.one (.s .far () 4 (x1.map GState.t))] [(false,[tB r])]):=by
 unfold ob
 apply JJ<;>intro h0
 ·exact JG (DP Tryz.f30 [.val (.int .i64 (x0.length:Int)),.val (.int .i64 (x1.length:Int)),.b true] (ALn x0 GState.t<|ALn x1 GState.t<|AC h0<|AN))
 ·refine JL (fun hl2 => ?_)
  refine JK (fun y hy => ?_)
  replace hy:=ym x0 x1 x0 0 rfl hl2 y hy
  cases y with
  | ret w0_4 =>
   have h1:=hy
   exact JG (DP Tryz.f30 [.val (.int .i64 (x0.length:Int)),.val (.int .i64 (x1.length:Int)),.b false,.lp .ret (kR w0_4)] (ALn x0 GState.t<|ALn x1 GState.t<|AC h0<|AL h1<|AN))
  | x0 =>
   have h1:=hy
   exact JG (DP Tryz.f30 [.val (.int .i64 (x0.length:Int)),.val (.int .i64 (x1.length:Int)),.b false,.lp (.exit 0) (lG)] (ALn x0 GState.t<|ALn x1 GState.t<|AC h0<|AL h1<|AN))
theorem rp (l:List GState):∀ (rest:List GState) (i:Nat),l.drop i=rest→(∀ y∈rest,ak.sm y)→fb l rest i=some .x0
 | [],i,_,_=>rfl
 | x::rest,i,hE,h=>by
  have hx:=h x (by simp)
  unfold fb
  rw [bo hE,Option.bind_some]
  simp only [hx,if_true,yes,bne_self_eq_false,BEq.rfl,Bool.not_true,cond_false,cond_true]
  exact rp l rest (i+1) (aK hE) (fun y hy=>h y (by simp [hy]))
theorem rW (x0:List GState) (x1:List GState) (e:x0=x1) (h:ak.sm x0):Does E 30 [.one (.s .far () 4 (x0.map GState.t)),.one (.s .far () 4 (x1.map GState.t))] [(false,[tB (yes x0 x1)])]:=by
 subst e
 exact Ag x0 x0 _ (by
  unfold ob
  rw [if_pos (hZ h),rp x0 x0 0 rfl h.2]
  simp [yes])
noncomputable def sU (x0 x1:GRun):Option (Bool) :=
  cond (!(x0.f0.toList==x1.f0.toList))
   (some (false))
   (if x0.f1=x1.f1 then if ak.sm x0.f1 then cond (yes x0.f1 x1.f1)
    (cond (x0.f2 != x1.f2)
     (some (false))
     (if x0.f3=x1.f3 then if ak.sm x0.f3 then cond (yes x0.f3 x1.f3)
      (some (true))
      (some (false)) else none else none))
    (some (false)) else none else none)
theorem Fb (x0 x1:GRun):Ans (sU x0 x1) (fun r=>Does E 11 [.agg (GRun.t .far x0),.agg (GRun.t .far x1)] [(false,[tB r])]):=by
 unfold sU
 apply JJ<;>intro h0
 ·exact JG (DP Tryz.f11 [.b true] (AC h0<|AN))
 ·refine JL (fun h1 => ?_)
  refine JL (fun h2 => ?_)
  apply JJ<;>intro h3
  ·apply JJ<;>intro h4
   ·exact JG (DP Tryz.f11 [.b false,rT,.b true] (AC h0<|AD (JO (nm x0.f1 x1.f1 h1 h2) h3)<|AC h4<|AN))
   ·refine JL (fun h5 => ?_)
    refine JL (fun h6 => ?_)
    apply JJ<;>intro h7
    ·exact JG (DP Tryz.f11 [.b false,rT,.b false,rT] (AC h0<|AD (JO (nm x0.f1 x1.f1 h1 h2) h3)<|AC h4<|AD (JO (rW x0.f3 x1.f3 h5 h6) h7)<|AN))
    ·exact JG (DP Tryz.f11 [.b false,rT,.b false,rF] (AC h0<|AD (JO (nm x0.f1 x1.f1 h1 h2) h3)<|AC h4<|AD (JO (rW x0.f3 x1.f3 h5 h6) h7)<|AN))
  ·exact JG (DP Tryz.f11 [.b false,rF] (AC h0<|AD (JO (nm x0.f1 x1.f1 h1 h2) h3)<|AN))
theorem eF (x0:GRun) (x1:GRun) (e:x0=x1) (h:ak.sm x0):Does E 11 [.agg (GRun.t .far x0),.agg (GRun.t .far x1)] [(false,[tB (yes x0 x1)])]:=by
 subst e
 obtain ⟨w0,w1,w3⟩:=h
 exact Fb x0 x0 _ (by
  unfold sU
  simp only [w1,w3,if_true,yes,bne_self_eq_false,BEq.rfl,Bool.not_true,cond_false,cond_true])
end Go.Proofs.YtgaiiephdjllkaaGreatDoor.Am
