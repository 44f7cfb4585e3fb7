/- What the functions that measure, copy and compare plans and runs do. -/
import Derived.Test.YtgaiiephdjllkaaGreatDoorPlans
namespace Go.Proofs.YtgaiiephdjllkaaGreatDoor.Am
open Go Go.Proofs Classical
set_option maxRecDepth 100000
set_option linter.unusedVariables false
set_option linter.unusedSimpArgs false
inductive qr where
 | ret (v4:Int)
 | x0 (v1:Int)
def fB (v0:List ByteArray) (v1 v5:Int):US:=stL 28 [(0,.one (.s .far () 1 (v0.map etS))),(1,.one (tI v1)),(5,.one (tI v5))]
def j8 (zv4:Int):US:=stL 28 [(4,.one (tI zv4))]
def kP (zv1:Int):US:=stL 28 [(1,.one (tI zv1))]
abbrev mr:US→Exit→US→Prop:=Round E 65 (az Tryz.f65 0)
def xF (v0:List ByteArray) (v1 v5:Int):qr→Prop
 | .ret zv4=>Loops E 65 (az Tryz.f65 0) (fB v0 v1 v5) .ret (j8 zv4)
 | .x0 zv1=>Loops E 65 (az Tryz.f65 0) (fB v0 v1 v5) (.exit 0) (kP zv1)
noncomputable def db  : List ByteArray→Nat→Int→Option qr
 | [],i,v1=>some (.x0 v1)
 | hd::rest,i,v1=>cond (decide ((IntKind.wrap .i64 (v1-(hd.size:Int)))<(0:Int)))
  (some (.ret (-1:Int)))
  (db rest (i+1) (IntKind.wrap .i64 (v1-(hd.size:Int))))
theorem xE (v0:List ByteArray) (rest:List ByteArray):∀ (i:Nat) (v1:Int),(v0).drop i=rest→v0.length≤9223372036854775807→Ans (db rest i v1) (xF v0 v1 (i:Int)):=by
 induction rest with
 | nil =>
  intro i v1 hE hl
  have hb:=br hE
  unfold db
  exact KB (KD (show mr (fB v0 v1 (i:Int)) (.exit 0) (kP v1) from RP [.val (.int .i64 (v0.length:Int)),.b false] (ALn v0 etS<|AC hb<|AN)) (by intro h;cases h))
 | cons hd rest ih =>
  intro i v1 hE hl
  have hb:=bd hE
  have hw:=be hE hl
  have hE2:=aJ hE
  have hg:=ba hE
  unfold db
  apply KE<;>intro h2
  ·exact KB (KD (show mr (fB v0 v1 (i:Int)) .ret (j8 (-1:Int)) from RP [.val (.int .i64 (v0.length:Int)),.b true,.row (etS hd),.no,.b true] (ALn v0 etS<|AC hb<|AR etS hg<|AC h2<|AN)) (by intro h;cases h))
  ·exact (ih (i+1) (IntKind.wrap .i64 (v1-(hd.size:Int))) hE2 hl).mono fun y hy=>by have r:mr (fB v0 v1 (i:Int)) .normal (fB v0 (IntKind.wrap .i64 (v1-(hd.size:Int))) (inc (i:Int))):=RP [.val (.int .i64 (v0.length:Int)),.b true,.row (etS hd),.no,.b false] (ALn v0 etS<|AC hb<|AR etS hg<|AC h2<|AN);rw [hw] at r;cases y<;>exact KC r hy
noncomputable def fU (x0:List ByteArray) (x1:Int):Option (Int) :=
  cond (decide ((IntKind.wrap .i64 (x1-(x0.length:Int)))<(0:Int)))
   (some ((-1:Int)))
   (if x0.length≤9223372036854775807 then (db x0 0 (IntKind.wrap .i64 (x1-(x0.length:Int)))).bind fun y=>match y with
    | .ret w0_4=>(some (w0_4))
    | .x0 w0_1=>(some (w0_1)) else none)
theorem zj (x0:List ByteArray) (x1:Int):Ans (fU x0 x1) (fun r=>Does E 65 [.one (.s .far () 1 (x0.map etS)),.one (tI x1)] [(false,[tI r])]):=by
 unfold fU
 apply KE<;>intro h0
 ·exact KB (DP Tryz.f65 [.val (.int .i64 (x0.length:Int)),.no,.b true] (ALn x0 etS<|AC h0<|AN))
 ·refine KG (fun hl2 => ?_)
  refine KF (fun y hy => ?_)
  replace hy:=xE x0 x0 0 (IntKind.wrap .i64 (x1-(x0.length:Int))) rfl hl2 y hy
  cases y with
  | ret w0_4 =>
   have h1:=hy
   exact KB (DP Tryz.f65 [.val (.int .i64 (x0.length:Int)),.no,.b false,.lp .ret (j8 w0_4)] (ALn x0 etS<|AC h0<|AL h1<|AN))
  | x0 w0_1 =>
   have h1:=hy
   exact KB (DP Tryz.f65 [.val (.int .i64 (x0.length:Int)),.no,.b false,.lp (.exit 0) (kP w0_1)] (ALn x0 etS<|AC h0<|AL h1<|AN))
noncomputable def cZ (x:List ByteArray) (n:Int):Int:=(fU x n).getD (-1)
theorem qE:∀ (rest:List ByteArray) (i:Nat) (n:Int),(∀ y∈rest,Wf.wf y)→Tot (db rest i n)
 | [],i,n,_=>Tot.some _
 | x::rest,i,n,h=>by
  have hx:=h x (by simp)
  have ih:=fun i n=>qE rest i n fun y hy=>h y (by simp [hy])
  unfold db
  repeat' (first | exact Tot.some _ | exact ih _ _ | apply Tot.cond | refine Tot.ite (by assumption) ?_)
theorem pA (x:List ByteArray) (n:Int) (h:Wf.wf x):fU x n=some (cZ x n):=by
 refine Tot.getD ?_ _
 unfold fU
 refine Tot.cond (Tot.some _) ?_
 refine Tot.ite h.1 (Tot.bind (qE x 0 _ h.2) fun y hy => ?_)
 cases y<;>exact Tot.some _
theorem rP (x0:List ByteArray) (x1:Int) (h:Wf.wf x0):Does E 65 [.one (.s .far () 1 (x0.map etS)),.one (tI x1)] [(false,[tI (cZ x0 x1)])]:=by
 exact zj x0 x1 _ (pA x0 x1 h)
theorem pp:∀ (rest:List ByteArray) (i:Nat) (n:Int),(∀ y∈rest,Wf.wf y)→0≤n→n≤1048576→∀ y,db rest i n=some y →
  (∃ m,y = .x0 m∧0≤m∧m≤n∧∀ z∈rest,ak.sm z)∨∃ m,y = .ret m∧m<0
 | [],i,n,_,h0,h1,y,e=>by cases e;exact .inl ⟨n,rfl,h0,Int.le_refl _,fun z hz=>by cases hz⟩
 | x::rest,i,n,h,h0,h1,y,e=>by
  have hx:=h x (by simp)
  unfold db at e
  try rw [if_pos hx] at e
  by_cases q:IntKind.wrap .i64 (n-(x.size:Int))<0
  ·rw [decide_eq_true q,cond_true] at e
   cases e
   exact .inr ⟨_,rfl,by omega⟩
  ·rw [decide_eq_false q,cond_false] at e
   try rw [if_pos hx] at e
   obtain ⟨b,c⟩:=nY h0 h1 hx (by omega)
   rcases pp rest _ _ (fun y hy=>h y (by simp [hy])) (by omega) (by omega) y e with ⟨m,g1,g2,g3,g4⟩ | g
   ·refine .inl ⟨m,g1,g2,by omega,fun z hz => ?_⟩
    rcases List.mem_cons.1 hz with rfl | hz
    ·exact iv c
    ·exact g4 z hz
   ·exact .inr g
theorem xI (x:List ByteArray) (n:Int) (hw:Wf.wf x) (h0:0≤n) (h1:n≤1048576) (h:0≤cZ x n):cZ x n≤n∧ak.sm x:=by
 have e:=pA x n hw
 generalize cZ x n=r at *
 unfold fU at e
 obtain ⟨a1,e⟩:=ju e h
 obtain ⟨b1,c1⟩:=nY (n:=n) (k:=x.length) h0 h1 hw.1 a1
 rw [if_pos hw.1,Option.bind_eq_some_iff] at e
 obtain ⟨y,e1,e2⟩:=e
 rcases pp x 0 _ hw.2 a1 (by omega) y e1 with ⟨m,rfl,g2,g3,g4⟩ | ⟨m,rfl,g⟩
 ·cases e2;exact ⟨by omega,iv c1,g4⟩
 ·cases e2;omega
noncomputable def jI (x0:GTask) (x1:Int):Option (Int) :=
  cond (decide ((IntKind.wrap .i64 (x1-(x0.f0.size:Int)))<(0:Int)))
   (some ((-1:Int)))
   (cond (decide ((IntKind.wrap .i64 ((IntKind.wrap .i64 (x1-(x0.f0.size:Int)))-(x0.f1.size:Int)))<(0:Int)))
    (some ((-1:Int)))
    (if Wf.wf x0.f4 then cond (decide ((cZ x0.f4 (IntKind.wrap .i64 ((IntKind.wrap .i64 (x1-(x0.f0.size:Int)))-(x0.f1.size:Int))))<(0:Int)))
     (some ((-1:Int)))
     (some (cZ x0.f4 (IntKind.wrap .i64 ((IntKind.wrap .i64 (x1-(x0.f0.size:Int)))-(x0.f1.size:Int))))) else none))
theorem Fd (x0:GTask) (x1:Int):Ans (jI x0 x1) (fun r=>Does E 42 [.agg (GTask.t .far x0),.one (tI x1)] [(false,[tI r])]):=by
 unfold jI
 apply KE<;>intro h0
 ·exact KB (DP Tryz.f42 [.no,.b true] (AC h0<|AN))
 ·apply KE<;>intro h1
  ·exact KB (DP Tryz.f42 [.no,.b false,.no,.b true] (AC h0<|AC h1<|AN))
  ·refine KG (fun h2 => ?_)
   apply KE<;>intro h3
   ·exact KB (DP Tryz.f42 [.no,.b false,.no,.b false,.ret [(false,[tI (cZ x0.f4 (IntKind.wrap .i64 ((IntKind.wrap .i64 (x1-(x0.f0.size:Int)))-(x0.f1.size:Int))))])],.b true] (AC h0<|AC h1<|AD (rP x0.f4 (IntKind.wrap .i64 ((IntKind.wrap .i64 (x1-(x0.f0.size:Int)))-(x0.f1.size:Int))) h2)<|AC h3<|AN))
   ·exact KB (DP Tryz.f42 [.no,.b false,.no,.b false,.ret [(false,[tI (cZ x0.f4 (IntKind.wrap .i64 ((IntKind.wrap .i64 (x1-(x0.f0.size:Int)))-(x0.f1.size:Int))))])],.b false] (AC h0<|AC h1<|AD (rP x0.f4 (IntKind.wrap .i64 ((IntKind.wrap .i64 (x1-(x0.f0.size:Int)))-(x0.f1.size:Int))) h2)<|AC h3<|AN))
noncomputable def dF (x:GTask) (n:Int):Int:=(jI x n).getD (-1)
theorem ug (x:GTask) (n:Int) (h:Wf.wf x):jI x n=some (dF x n):=by
 obtain ⟨w0,w1,w4⟩:=h
 refine Tot.getD ?_ _
 unfold jI
 repeat' (first | exact Tot.some _ | apply Tot.cond | refine Tot.ite (by assumption) ?_)
theorem vN (x0:GTask) (x1:Int) (h:Wf.wf x0):Does E 42 [.agg (GTask.t .far x0),.one (tI x1)] [(false,[tI (dF x0 x1)])]:=by
 exact Fd x0 x1 _ (ug x0 x1 h)
theorem Dh (x:GTask) (n:Int) (hw:Wf.wf x) (h0:0≤n) (h1:n≤1048576) (h:0≤dF x n):dF x n≤n∧ak.sm x:=by
 have e:=ug x n hw
 obtain ⟨w0,w1,w4⟩:=hw
 generalize dF x n=r at *
 unfold jI at e
 obtain ⟨a1,e⟩:=ju e h
 obtain ⟨b1,c1⟩:=nY (n:=n) (k:=x.f0.size) h0 (by omega) w0 a1
 generalize IntKind.wrap .i64 (n-(x.f0.size:Int))=m1 at *
 obtain ⟨a2,e⟩:=ju e h
 obtain ⟨b2,c2⟩:=nY (n:=m1) (k:=x.f1.size) a1 (by omega) w1 a2
 generalize IntKind.wrap .i64 (m1-(x.f1.size:Int))=m2 at *
 try rw [if_pos w4] at e
 obtain ⟨a3,e⟩:=ju e h
 try rw [if_pos w4] at e
 obtain ⟨b3,c3⟩:=xI x.f4 m2 w4 a2 (by omega) a3
 generalize cZ x.f4 m2=m3 at *
 cases e
 exact ⟨by omega,⟨iv c1,iv c2,c3⟩⟩
inductive tF where
 | ret (v4:Int)
 | x0 (v1:Int)
def gP (q0:Kd) (v0:List GTask) (v1 v5:Int):US:=stL 27 [(0,.one (.s .far () 5 (v0.map (GTask.t q0)))),(1,.one (tI v1)),(5,.one (tI v5))]
def lR (q0:Kd) (zv4:Int):US:=stL 27 [(4,.one (tI zv4))]
def ms (q0:Kd) (zv1:Int):US:=stL 27 [(1,.one (tI zv1))]
abbrev oC:US→Exit→US→Prop:=Round E 22 (az Tryz.f22 0)
def Bt {q0:Kd} (v0:List GTask) (v1 v5:Int):tF→Prop
 | .ret zv4=>Loops E 22 (az Tryz.f22 0) (gP q0 v0 v1 v5) .ret (lR q0 zv4)
 | .x0 zv1=>Loops E 22 (az Tryz.f22 0) (gP q0 v0 v1 v5) (.exit 0) (ms q0 zv1)
noncomputable def d9  : List GTask→Nat→Int→Option tF
 | [],i,v1=>some (.x0 v1)
 | hd::rest,i,v1=>if Wf.wf hd then cond (decide ((dF hd v1)<(0:Int)))
  (some (.ret (-1:Int)))
  (d9 rest (i+1) (dF hd v1)) else none
theorem Bs {q0:Kd} (v0:List GTask) (rest:List GTask):∀ (i:Nat) (v1:Int),(v0).drop i=rest→v0.length≤9223372036854775807→Ans (d9 rest i v1) (Bt (q0:=q0) v0 v1 (i:Int)):=by
 induction rest with
 | nil =>
  intro i v1 hE hl
  have hb:=br hE
  unfold d9
  exact KB (KD (show oC (gP q0 v0 v1 (i:Int)) (.exit 0) (ms q0 v1) from RP [.val (.int .i64 (v0.length:Int)),.b false] (ALn v0 (GTask.t q0)<|AC hb<|AN)) (by intro h;cases h))
 | cons hd rest ih =>
  intro i v1 hE hl
  have hb:=bd hE
  have hw:=be hE hl
  have hE2:=aJ hE
  have hg:=ba hE
  unfold d9
  refine KG (fun h2 => ?_)
  apply KE<;>intro h3
  ·exact KB (KD (show oC (gP q0 v0 v1 (i:Int)) .ret (lR q0 (-1:Int)) from RP [.val (.int .i64 (v0.length:Int)),.b true,.row ((GTask.t q0) hd),.ret [(false,[tI (dF hd v1)])],.b true] (ALn v0 (GTask.t q0)<|AC hb<|AR (GTask.t q0) hg<|AD (vN hd v1 h2)<|AC h3<|AN)) (by intro h;cases h))
  ·exact (ih (i+1) (dF hd v1) hE2 hl).mono fun y hy=>by have r:oC (gP q0 v0 v1 (i:Int)) .normal (gP q0 v0 (dF hd v1) (inc (i:Int))):=RP [.val (.int .i64 (v0.length:Int)),.b true,.row ((GTask.t q0) hd),.ret [(false,[tI (dF hd v1)])],.b false] (ALn v0 (GTask.t q0)<|AC hb<|AR (GTask.t q0) hg<|AD (vN hd v1 h2)<|AC h3<|AN);rw [hw] at r;cases y<;>exact KC r hy
noncomputable def iL (x0:List GTask) (x1:Int):Option (Int) :=
  cond (decide ((IntKind.wrap .i64 (x1-(x0.length:Int)))<(0:Int)))
   (some ((-1:Int)))
   (if x0.length≤9223372036854775807 then (d9 x0 0 (IntKind.wrap .i64 (x1-(x0.length:Int)))).bind fun y=>match y with
    | .ret w0_4=>(some (w0_4))
    | .x0 w0_1=>(some (w0_1)) else none)
theorem De {q0:Kd} (x0:List GTask) (x1:Int):Ans (iL x0 x1) (fun r=>Does E 22 [.one (.s .far () 5 (x0.map (GTask.t q0))),.one (tI x1)] [(false,[tI r])]):=by
 unfold iL
 apply KE<;>intro h0
 ·exact KB (DP Tryz.f22 [.val (.int .i64 (x0.length:Int)),.no,.b true] (ALn x0 (GTask.t q0)<|AC h0<|AN))
 ·refine KG (fun hl2 => ?_)
  refine KF (fun y hy => ?_)
  replace hy:=Bs (q0:=q0) x0 x0 0 (IntKind.wrap .i64 (x1-(x0.length:Int))) rfl hl2 y hy
  cases y with
  | ret w0_4 =>
   have h1:=hy
   exact KB (DP Tryz.f22 [.val (.int .i64 (x0.length:Int)),.no,.b false,.lp .ret (lR q0 w0_4)] (ALn x0 (GTask.t q0)<|AC h0<|AL h1<|AN))
  | x0 w0_1 =>
   have h1:=hy
   exact KB (DP Tryz.f22 [.val (.int .i64 (x0.length:Int)),.no,.b false,.lp (.exit 0) (ms q0 w0_1)] (ALn x0 (GTask.t q0)<|AC h0<|AL h1<|AN))
noncomputable def c6 (x:List GTask) (n:Int):Int:=(iL x n).getD (-1)
theorem uf:∀ (rest:List GTask) (i:Nat) (n:Int),(∀ y∈rest,Wf.wf y)→Tot (d9 rest i n)
 | [],i,n,_=>Tot.some _
 | x::rest,i,n,h=>by
  have hx:=h x (by simp)
  have ih:=fun i n=>uf rest i n fun y hy=>h y (by simp [hy])
  unfold d9
  repeat' (first | exact Tot.some _ | exact ih _ _ | apply Tot.cond | refine Tot.ite (by assumption) ?_)
theorem sv (x:List GTask) (n:Int) (h:Wf.wf x):iL x n=some (c6 x n):=by
 refine Tot.getD ?_ _
 unfold iL
 refine Tot.cond (Tot.some _) ?_
 refine Tot.ite h.1 (Tot.bind (uf x 0 _ h.2) fun y hy => ?_)
 cases y<;>exact Tot.some _
theorem uu {q0:Kd} (x0:List GTask) (x1:Int) (h:Wf.wf x0):Does E 22 [.one (.s .far () 5 (x0.map (GTask.t q0))),.one (tI x1)] [(false,[tI (c6 x0 x1)])]:=by
 exact De x0 x1 _ (sv x0 x1 h)
theorem r9:∀ (rest:List GTask) (i:Nat) (n:Int),(∀ y∈rest,Wf.wf y)→0≤n→n≤1048576→∀ y,d9 rest i n=some y →
  (∃ m,y = .x0 m∧0≤m∧m≤n∧∀ z∈rest,ak.sm z)∨∃ m,y = .ret m∧m<0
 | [],i,n,_,h0,h1,y,e=>by cases e;exact .inl ⟨n,rfl,h0,Int.le_refl _,fun z hz=>by cases hz⟩
 | x::rest,i,n,h,h0,h1,y,e=>by
  have hx:=h x (by simp)
  unfold d9 at e
  try rw [if_pos hx] at e
  by_cases q:dF x n<0
  ·rw [decide_eq_true q,cond_true] at e
   cases e
   exact .inr ⟨_,rfl,by omega⟩
  ·rw [decide_eq_false q,cond_false] at e
   try rw [if_pos hx] at e
   obtain ⟨b,c⟩:=Dh x n hx h0 h1 (by omega)
   rcases r9 rest _ _ (fun y hy=>h y (by simp [hy])) (by omega) (by omega) y e with ⟨m,g1,g2,g3,g4⟩ | g
   ·refine .inl ⟨m,g1,g2,by omega,fun z hz => ?_⟩
    rcases List.mem_cons.1 hz with rfl | hz
    ·exact c
    ·exact g4 z hz
   ·exact .inr g
theorem Bx (x:List GTask) (n:Int) (hw:Wf.wf x) (h0:0≤n) (h1:n≤1048576) (h:0≤c6 x n):c6 x n≤n∧ak.sm x:=by
 have e:=sv x n hw
 generalize c6 x n=r at *
 unfold iL at e
 obtain ⟨a1,e⟩:=ju e h
 obtain ⟨b1,c1⟩:=nY (n:=n) (k:=x.length) h0 h1 hw.1 a1
 rw [if_pos hw.1,Option.bind_eq_some_iff] at e
 obtain ⟨y,e1,e2⟩:=e
 rcases r9 x 0 _ hw.2 a1 (by omega) y e1 with ⟨m,rfl,g2,g3,g4⟩ | ⟨m,rfl,g⟩
 ·cases e2;exact ⟨by omega,iv c1,g4⟩
 ·cases e2;omega
noncomputable def ld (x0:LDag) (x1:Int):Option (Int) :=
  cond (decide ((IntKind.wrap .i64 (x1-(x0.f0.size:Int)))<(0:Int)))
   (some ((-1:Int)))
   (cond (decide ((IntKind.wrap .i64 ((IntKind.wrap .i64 (x1-(x0.f0.size:Int)))-(x0.f1.size:Int)))<(0:Int)))
    (some ((-1:Int)))
    (if Wf.wf x0.f5 then cond (decide ((c6 x0.f5 (IntKind.wrap .i64 ((IntKind.wrap .i64 (x1-(x0.f0.size:Int)))-(x0.f1.size:Int))))<(0:Int)))
     (some ((-1:Int)))
     (some (c6 x0.f5 (IntKind.wrap .i64 ((IntKind.wrap .i64 (x1-(x0.f0.size:Int)))-(x0.f1.size:Int))))) else none))
theorem Gv {q0:Kd} (x0:LDag) (x1:Int):Ans (ld x0 x1) (fun r=>Does E 6 [.agg (LDag.t .far q0 x0),.one (tI x1)] [(false,[tI r])]):=by
 unfold ld
 apply KE<;>intro h0
 ·exact KB (DP Tryz.f6 [.no,.b true] (AC h0<|AN))
 ·apply KE<;>intro h1
  ·exact KB (DP Tryz.f6 [.no,.b false,.no,.b true] (AC h0<|AC h1<|AN))
  ·refine KG (fun h2 => ?_)
   apply KE<;>intro h3
   ·exact KB (DP Tryz.f6 [.no,.b false,.no,.b false,.ret [(false,[tI (c6 x0.f5 (IntKind.wrap .i64 ((IntKind.wrap .i64 (x1-(x0.f0.size:Int)))-(x0.f1.size:Int))))])],.b true] (AC h0<|AC h1<|AV (ψ:=fun k=>E.C k 22 [.one (.s .far () 5 (x0.f5.map (GTask.t q0))),.one (tI (IntKind.wrap .i64 ((IntKind.wrap .i64 (x1-(x0.f0.size:Int)))-(x0.f1.size:Int))))]=some [(false,[tI (c6 x0.f5 (IntKind.wrap .i64 ((IntKind.wrap .i64 (x1-(x0.f0.size:Int)))-(x0.f1.size:Int))))])]) (uu x0.f5 (IntKind.wrap .i64 ((IntKind.wrap .i64 (x1-(x0.f0.size:Int)))-(x0.f1.size:Int))) h2)<|AC h3<|AN))
   ·exact KB (DP Tryz.f6 [.no,.b false,.no,.b false,.ret [(false,[tI (c6 x0.f5 (IntKind.wrap .i64 ((IntKind.wrap .i64 (x1-(x0.f0.size:Int)))-(x0.f1.size:Int))))])],.b false] (AC h0<|AC h1<|AV (ψ:=fun k=>E.C k 22 [.one (.s .far () 5 (x0.f5.map (GTask.t q0))),.one (tI (IntKind.wrap .i64 ((IntKind.wrap .i64 (x1-(x0.f0.size:Int)))-(x0.f1.size:Int))))]=some [(false,[tI (c6 x0.f5 (IntKind.wrap .i64 ((IntKind.wrap .i64 (x1-(x0.f0.size:Int)))-(x0.f1.size:Int))))])]) (uu x0.f5 (IntKind.wrap .i64 ((IntKind.wrap .i64 (x1-(x0.f0.size:Int)))-(x0.f1.size:Int))) h2)<|AC h3<|AN))
noncomputable def aB (x:LDag) (n:Int):Int:=(ld x n).getD (-1)
theorem vd (x:LDag) (n:Int) (h:Wf.wf x):ld x n=some (aB x n):=by
 obtain ⟨w0,w1,w5⟩:=h
 refine Tot.getD ?_ _
 unfold ld
 repeat' (first | exact Tot.some _ | apply Tot.cond | refine Tot.ite (by assumption) ?_)
theorem ek {q0:Kd} (x0:LDag) (x1:Int) (h:Wf.wf x0):Does E 6 [.agg (LDag.t .far q0 x0),.one (tI x1)] [(false,[tI (aB x0 x1)])]:=by
 exact Gv x0 x1 _ (vd x0 x1 h)
theorem wA (x:LDag) (n:Int) (hw:Wf.wf x) (h0:0≤n) (h1:n≤1048576) (h:0≤aB x n):aB x n≤n∧ak.sm x:=by
 have e:=vd x n hw
 obtain ⟨w0,w1,w5⟩:=hw
 generalize aB x n=r at *
 unfold ld at e
 obtain ⟨a1,e⟩:=ju e h
 obtain ⟨b1,c1⟩:=nY (n:=n) (k:=x.f0.size) h0 (by omega) w0 a1
 generalize IntKind.wrap .i64 (n-(x.f0.size:Int))=m1 at *
 obtain ⟨a2,e⟩:=ju e h
 obtain ⟨b2,c2⟩:=nY (n:=m1) (k:=x.f1.size) a1 (by omega) w1 a2
 generalize IntKind.wrap .i64 (m1-(x.f1.size:Int))=m2 at *
 try rw [if_pos w5] at e
 obtain ⟨a3,e⟩:=ju e h
 try rw [if_pos w5] at e
 obtain ⟨b3,c3⟩:=Bx x.f5 m2 w5 a2 (by omega) a3
 generalize c6 x.f5 m2=m3 at *
 cases e
 exact ⟨by omega,⟨iv c1,iv c2,c3⟩⟩
inductive qu where
 | x0 (v3:List ByteArray)
def jJ (v0 v3:List ByteArray) (v4:Int):US:=stL 22 [(0,.one (.s .far () 1 (v0.map etS))),(3,.one (.s .own () 1 (v3.map etS))),(4,.one (tI v4))]
def kQ (zv3:List ByteArray):US:=stL 22 [(3,.one (.s .own () 1 (zv3.map etS)))]
abbrev qt:US→Exit→US→Prop:=Round E 73 (az Tryz.f73 0)
def xH (v0 v3:List ByteArray) (v4:Int):qu→Prop
 | .x0 zv3=>Loops E 73 (az Tryz.f73 0) (jJ v0 v3 v4) (.exit 0) (kQ zv3)
noncomputable def dP  : List ByteArray→Nat→(List ByteArray)→Option qu
 | [],i,v3=>some (.x0 v3)
 | hd::rest,i,v3=>(aq v3 (i:Int)).bind fun g1=>dP rest (i+1) (v3.set (i:Int).toNat hd)
theorem xG (v0:List ByteArray) (rest:List ByteArray):∀ (i:Nat) (v3:List ByteArray),(v0).drop i=rest→v0.length≤9223372036854775807→Ans (dP rest i v3) (xH v0 v3 (i:Int)):=by
 induction rest with
 | nil =>
  intro i v3 hE hl
  have hb:=br hE
  unfold dP
  exact KB (KD (show qt (jJ v0 v3 (i:Int)) (.exit 0) (kQ v3) from RP [.val (.int .i64 (v0.length:Int)),.b false] (ALn v0 etS<|AC hb<|AN)) (by intro h;cases h))
 | cons hd rest ih =>
  intro i v3 hE hl
  have hb:=bd hE
  have hw:=be hE hl
  have hE2:=aJ hE
  have hg:=ba hE
  unfold dP
  refine KF (fun g1 h2 => ?_)
  exact (ih (i+1) (v3.set (i:Int).toNat hd) hE2 hl).mono fun y hy=>by have r:qt (jJ v0 v3 (i:Int)) .normal (jJ v0 (v3.set (i:Int).toNat hd) (inc (i:Int))):=RP [.val (.int .i64 (v0.length:Int)),.b true,.row (etS hd),.row (etS g1),.rows ((v3.set (i:Int).toNat hd).map etS)] (ALn v0 etS<|AC hb<|AR etS hg<|AG etS h2<|AC (p:=(v3.map etS).set (0+(i:Int).toNat) (aA (etS g1) 0 [tS hd])=(v3.set (i:Int).toNat hd).map etS) (gr (by rfl))<|AN);rw [hw] at r;cases y<;>exact KC r hy
noncomputable def nt (x0:List ByteArray):Option ((List ByteArray)) :=
  if 0≤(x0.length:Int)∧(x0.length:Int)≤(x0.length:Int)∧((16:Nat):Int)*(x0.length:Int)≤281474976710656∧(x0.length:Int)≤4611686018427387904 then if x0.length≤9223372036854775807 then (dP x0 0 (List.replicate (x0.length:Int).toNat ByteArray.empty)).bind fun y=>match y with
   | .x0 w0_3=>(some (w0_3)) else none else none
theorem zm (x0:List ByteArray):Ans (nt x0) (fun r=>Does E 73 [.one (.s .far () 1 (x0.map etS))] [(false,[.s .own () 1 (r.map etS)])]):=by
 unfold nt
 refine KG (fun h0 => ?_)
 refine KG (fun hl1 => ?_)
 refine KF (fun y hy => ?_)
 replace hy:=xG x0 x0 0 (List.replicate (x0.length:Int).toNat ByteArray.empty) rfl hl1 y hy
 cases y with
 | x0 w0_3 =>
  have h1:=hy
  exact KB (DP Tryz.f73 [.val (.int .i64 (x0.length:Int)),.rows ((List.replicate (x0.length:Int).toNat ByteArray.empty).map etS),.lp (.exit 0) (kQ w0_3)] (ALn x0 etS<|AC h0<|AC (p:=List.replicate (x0.length:Int).toNat [tS ByteArray.empty]=(List.replicate (x0.length:Int).toNat ByteArray.empty).map etS) (oG rfl)<|AL h1<|AN))
def kx (l:List ByteArray):List ByteArray:=l
theorem qc:∀ (rest:List ByteArray) (i:Nat) (v:List ByteArray),(∀ y∈rest,ak.sm y)→v.length=i+rest.length→dP rest i v=some (.x0 (v.take i++rest))
 | [],i,v,_,hv=>by unfold dP;rw [List.take_of_length_le (by simp at hv;omega)];simp
 | x::rest,i,v,h,hv=>by
  have hx:=h x (by simp)
  have hi:i<v.length:=by simp at hv;omega
  unfold dP
  rw [ex,List.getElem?_eq_getElem hi,Option.bind_some]
  try rw [if_pos hx]
  rw [Int.toNat_natCast,qc rest (i+1) _ (fun y hy=>h y (by simp [hy])) (by simp at hv ⊢;omega),yj hi]
  simp
theorem y5 (x0:List ByteArray) (h:ak.sm x0):Does E 73 [.one (.s .far () 1 (x0.map etS))] [(false,[.s .own () 1 ((kx x0).map etS)])]:=by
 exact zm x0 _ (by
  unfold nt
  rw [if_pos (BA 16 (by decide) h.1 rfl),if_pos (lj h),qc x0 0 _ h.2 (by simp)]
  simp [kx])
noncomputable def rp (x0:GTask):Option (GTask) :=
  if ak.sm x0.f4 then some ((GTask.mk x0.f0 x0.f1 x0.f2 x0.f3 (kx x0.f4))) else none
theorem Ff (x0:GTask):Ans (rp x0) (fun r=>Does E 49 [.agg (GTask.t .far x0)] [(true,GTask.t .own r)]):=by
 unfold rp
 refine KG (fun h0 => ?_)
 exact KB (DP Tryz.f49 [.ret [(false,[.s .own () 1 ((kx x0.f4).map etS)])]] (AD (y5 x0.f4 h0)<|AN))
def de (x:GTask):GTask:=x
theorem En (x0:GTask) (h:ak.sm x0):Does E 49 [.agg (GTask.t .far x0)] [(true,GTask.t .own (de x0))]:=by
 obtain ⟨w0,w1,w4⟩:=h
 exact Ff x0 _ (by
  unfold rp
  repeat rw [if_pos (by assumption)]
  rfl)
inductive tK where
 | x0 (v3:List GTask)
def lT (q0:Kd) (v0 v3:List GTask) (v4:Int):US:=stL 23 [(0,.one (.s .far () 5 (v0.map (GTask.t q0)))),(3,.one (.s .own () 5 (v3.map (GTask.t .own)))),(4,.one (tI v4))]
def mt (q0:Kd) (zv3:List GTask):US:=stL 23 [(3,.one (.s .own () 5 (zv3.map (GTask.t .own))))]
abbrev tJ:US→Exit→US→Prop:=Round E 25 (az Tryz.f25 0)
def Bw {q0:Kd} (v0 v3:List GTask) (v4:Int):tK→Prop
 | .x0 zv3=>Loops E 25 (az Tryz.f25 0) (lT q0 v0 v3 v4) (.exit 0) (mt q0 zv3)
noncomputable def eL  : List GTask→Nat→(List GTask)→Option tK
 | [],i,v3=>some (.x0 v3)
 | hd::rest,i,v3=>if ak.sm hd then (aq v3 (i:Int)).bind fun g1=>eL rest (i+1) (v3.set (i:Int).toNat (de hd)) else none
theorem Bv {q0:Kd} (v0:List GTask) (rest:List GTask):∀ (i:Nat) (v3:List GTask),(v0).drop i=rest→v0.length≤9223372036854775807→Ans (eL rest i v3) (Bw (q0:=q0) v0 v3 (i:Int)):=by
 induction rest with
 | nil =>
  intro i v3 hE hl
  have hb:=br hE
  unfold eL
  exact KB (KD (show tJ (lT q0 v0 v3 (i:Int)) (.exit 0) (mt q0 v3) from RP [.val (.int .i64 (v0.length:Int)),.b false] (ALn v0 (GTask.t q0)<|AC hb<|AN)) (by intro h;cases h))
 | cons hd rest ih =>
  intro i v3 hE hl
  have hb:=bd hE
  have hw:=be hE hl
  have hE2:=aJ hE
  have hg:=ba hE
  unfold eL
  refine KG (fun h2 => ?_)
  refine KF (fun g1 h3 => ?_)
  exact (ih (i+1) (v3.set (i:Int).toNat (de hd)) hE2 hl).mono fun y hy=>by have r:tJ (lT q0 v0 v3 (i:Int)) .normal (lT q0 v0 (v3.set (i:Int).toNat (de hd)) (inc (i:Int))):=RP [.val (.int .i64 (v0.length:Int)),.b true,.row ((GTask.t q0) hd),.ret [(true,GTask.t .own (de hd))],.row ((GTask.t .own) g1),.rows ((v3.set (i:Int).toNat (de hd)).map (GTask.t .own))] (ALn v0 (GTask.t q0)<|AC hb<|AR (GTask.t q0) hg<|AD (En hd h2)<|AG (GTask.t .own) h3<|AC (p:=(v3.map (GTask.t .own)).set (0+(i:Int).toNat) (aA ((GTask.t .own) g1) 0 [tS ((de hd).f0),tS ((de hd).f1),tI ((de hd).f2),tB ((de hd).f3),.s .own () 1 (((de hd).f4).map etS)])=(v3.set (i:Int).toNat (de hd)).map (GTask.t .own)) (gr (by rfl))<|AN);rw [hw] at r;cases y<;>exact KC r hy
noncomputable def pO (x0:List GTask):Option ((List GTask)) :=
  if 0≤(x0.length:Int)∧(x0.length:Int)≤(x0.length:Int)∧((72:Nat):Int)*(x0.length:Int)≤281474976710656∧(x0.length:Int)≤4611686018427387904 then if x0.length≤9223372036854775807 then (eL x0 0 (List.replicate (x0.length:Int).toNat (GTask.mk ByteArray.empty ByteArray.empty (0:Int) false ([]:List ByteArray)))).bind fun y=>match y with
   | .x0 w0_3=>(some (w0_3)) else none else none
theorem Dg {q0:Kd} (x0:List GTask):Ans (pO x0) (fun r=>Does E 25 [.one (.s .far () 5 (x0.map (GTask.t q0)))] [(false,[.s .own () 5 (r.map (GTask.t .own))])]):=by
 unfold pO
 refine KG (fun h0 => ?_)
 refine KG (fun hl1 => ?_)
 refine KF (fun y hy => ?_)
 replace hy:=Bv (q0:=q0) x0 x0 0 (List.replicate (x0.length:Int).toNat (GTask.mk ByteArray.empty ByteArray.empty (0:Int) false ([]:List ByteArray))) rfl hl1 y hy
 cases y with
 | x0 w0_3 =>
  have h1:=hy
  exact KB (DP Tryz.f25 [.val (.int .i64 (x0.length:Int)),.rows ((List.replicate (x0.length:Int).toNat (GTask.mk ByteArray.empty ByteArray.empty (0:Int) false ([]:List ByteArray))).map (GTask.t .own)),.lp (.exit 0) (mt q0 w0_3)] (ALn x0 (GTask.t q0)<|AC h0<|AC (p:=List.replicate (x0.length:Int).toNat [tS ByteArray.empty,tS ByteArray.empty,tI (0:Int),tB false,.s .own () 1 (([]:List ByteArray).map etS)]=(List.replicate (x0.length:Int).toNat (GTask.mk ByteArray.empty ByteArray.empty (0:Int) false ([]:List ByteArray))).map (GTask.t .own)) (oG rfl)<|AL h1<|AN))
def iN (l:List GTask):List GTask:=l
theorem sQ:∀ (rest:List GTask) (i:Nat) (v:List GTask),(∀ y∈rest,ak.sm y)→v.length=i+rest.length→eL rest i v=some (.x0 (v.take i++rest))
 | [],i,v,_,hv=>by unfold eL;rw [List.take_of_length_le (by simp at hv;omega)];simp
 | x::rest,i,v,h,hv=>by
  have hx:=h x (by simp)
  have hi:i<v.length:=by simp at hv;omega
  unfold eL
  rw [ex,List.getElem?_eq_getElem hi,Option.bind_some]
  try rw [if_pos hx]
  rw [Int.toNat_natCast,sQ rest (i+1) _ (fun y hy=>h y (by simp [hy])) (by simp at hv ⊢;omega),yj hi]
  simp [de]
theorem CB {q0:Kd} (x0:List GTask) (h:ak.sm x0):Does E 25 [.one (.s .far () 5 (x0.map (GTask.t q0)))] [(false,[.s .own () 5 ((iN x0).map (GTask.t .own))])]:=by
 exact Dg x0 _ (by
  unfold pO
  rw [if_pos (BA 72 (by decide) h.1 rfl),if_pos (lj h),sQ x0 0 _ h.2 (by simp)]
  simp [iN])
noncomputable def tG (x0:LDag):Option (GDag) :=
  if ak.sm x0.f5 then some ((GDag.mk x0.f0 x0.f1 x0.f2 x0.f3 x0.f4 (iN x0.f5))) else none
theorem Gx {q0:Kd} (x0:LDag):Ans (tG x0) (fun r=>Does E 8 [.agg (LDag.t .far q0 x0)] [(true,GDag.t .own .own r)]):=by
 unfold tG
 refine KG (fun h0 => ?_)
 exact KB (DP Tryz.f8 [.ret [(false,[.s .own () 5 ((iN x0.f5).map (GTask.t .own))])]] (AV (ψ:=fun k=>E.C k 25 [.one (.s .far () 5 (x0.f5.map (GTask.t q0)))]=some [(false,[.s .own () 5 ((iN x0.f5).map (GTask.t .own))])]) (CB x0.f5 h0)<|AN))
def ae (x:LDag):GDag:=⟨x.f0,x.f1,x.f2,x.f3,x.f4,iN x.f5⟩
theorem wT {x:LDag} (h:ak.sm x):ak.sm (ae x):=by
 obtain ⟨w0,w1,w5⟩:=h
 exact ⟨w0,w1,w5⟩
theorem bJ {q0:Kd} (x0:LDag) (h:ak.sm x0):Does E 8 [.agg (LDag.t .far q0 x0)] [(true,GDag.t .own .own (ae x0))]:=by
 obtain ⟨w0,w1,w5⟩:=h
 exact Gx x0 _ (by
  unfold tG
  repeat rw [if_pos (by assumption)]
  rfl)
inductive qq where
 | ret (v4:Bool)
 | x0 
def fA (v0 v1:List ByteArray) (v5:Int):US:=stL 26 [(0,.one (.s .far () 1 (v0.map etS))),(1,.one (.s .far () 1 (v1.map etS))),(5,.one (tI v5))]
def j7 (zv4:Bool):US:=stL 26 [(4,.one (tB zv4))]
def kO  : US:=stL 26 []
abbrev mp:US→Exit→US→Prop:=Round E 82 (az Tryz.f82 0)
def xD (v0 v1:List ByteArray) (v5:Int):qq→Prop
 | .ret zv4=>Loops E 82 (az Tryz.f82 0) (fA v0 v1 v5) .ret (j7 zv4)
 | .x0=>Loops E 82 (az Tryz.f82 0) (fA v0 v1 v5) (.exit 0) (kO)
noncomputable def ey (v1:List ByteArray):List ByteArray→Nat→Option qq
 | [],i=>some (.x0)
 | hd::rest,i=>(aq v1 (i:Int)).bind fun g1=>cond (!(hd.toList==g1.toList))
  (some (.ret false))
  (ey v1 rest (i+1))
theorem xC (v0 v1:List ByteArray) (rest:List ByteArray):∀ (i:Nat) ,(v0).drop i=rest→v0.length≤9223372036854775807→Ans (ey v1 rest i) (xD v0 v1 (i:Int)):=by
 induction rest with
 | nil =>
  intro i hE hl
  have hb:=br hE
  unfold ey
  exact KB (KD (show mp (fA v0 v1 (i:Int)) (.exit 0) (kO) from RP [.val (.int .i64 (v0.length:Int)),.b false] (ALn v0 etS<|AC hb<|AN)) (by intro h;cases h))
 | cons hd rest ih =>
  intro i hE hl
  have hb:=bd hE
  have hw:=be hE hl
  have hE2:=aJ hE
  have hg:=ba hE
  unfold ey
  refine KF (fun g1 h2 => ?_)
  apply KE<;>intro h3
  ·exact KB (KD (show mp (fA v0 v1 (i:Int)) .ret (j7 false) from RP [.val (.int .i64 (v0.length:Int)),.b true,.row (etS hd),.row (etS g1),.b true] (ALn v0 etS<|AC hb<|AR etS hg<|AR etS h2<|AC h3<|AN)) (by intro h;cases h))
  ·exact (ih (i+1) hE2 hl).mono fun y hy=>by have r:mp (fA v0 v1 (i:Int)) .normal (fA v0 v1 (inc (i:Int))):=RP [.val (.int .i64 (v0.length:Int)),.b true,.row (etS hd),.row (etS g1),.b false] (ALn v0 etS<|AC hb<|AR etS hg<|AR etS h2<|AC h3<|AN);rw [hw] at r;cases y<;>exact KC r hy
noncomputable def nq (x0 x1:List ByteArray):Option (Bool) :=
  cond ((x0.length:Int) != (x1.length:Int))
   (some (false))
   (if x0.length≤9223372036854775807 then (ey x1 x0 0).bind fun y=>match y with
    | .ret w0_4=>(some (w0_4))
    | .x0=>(some (true)) else none)
theorem zi (x0 x1:List ByteArray):Ans (nq x0 x1) (fun r=>Does E 82 [.one (.s .far () 1 (x0.map etS)),.one (.s .far () 1 (x1.map etS))] [(false,[tB r])]):=by
 unfold nq
 apply KE<;>intro h0
 ·exact KB (DP Tryz.f82 [.val (.int .i64 (x0.length:Int)),.val (.int .i64 (x1.length:Int)),.b true] (ALn x0 etS<|ALn x1 etS<|AC h0<|AN))
 ·refine KG (fun hl2 => ?_)
  refine KF (fun y hy => ?_)
  replace hy:=xC x0 x1 x0 0 rfl hl2 y hy
  cases y with
  | ret w0_4 =>
   have h1:=hy
   exact KB (DP Tryz.f82 [.val (.int .i64 (x0.length:Int)),.val (.int .i64 (x1.length:Int)),.b false,.lp .ret (j7 w0_4)] (ALn x0 etS<|ALn x1 etS<|AC h0<|AL h1<|AN))
  | x0 =>
   have h1:=hy
   exact KB (DP Tryz.f82 [.val (.int .i64 (x0.length:Int)),.val (.int .i64 (x1.length:Int)),.b false,.lp (.exit 0) (kO)] (ALn x0 etS<|ALn x1 etS<|AC h0<|AL h1<|AN))
theorem qe (l:List ByteArray):∀ (rest:List ByteArray) (i:Nat),l.drop i=rest→(∀ y∈rest,ak.sm y)→ey l rest i=some .x0
 | [],i,_,_=>rfl
 | x::rest,i,hE,h=>by
  have hx:=h x (by simp)
  unfold ey
  rw [ba hE,Option.bind_some]
  simp only [hx,if_true,yes,bne_self_eq_false,BEq.rfl,Bool.not_true,cond_false,cond_true]
  exact qe l rest (i+1) (aJ hE) (fun y hy=>h y (by simp [hy]))
theorem rO (x0:List ByteArray) (x1:List ByteArray) (e:x0=x1) (h:ak.sm x0):Does E 82 [.one (.s .far () 1 (x0.map etS)),.one (.s .far () 1 (x1.map etS))] [(false,[tB (yes x0 x1)])]:=by
 subst e
 exact zi x0 x0 _ (by
  unfold nq
  rw [if_pos (lj h),qe x0 x0 0 rfl h.2]
  simp [yes])
noncomputable def rn (x0 x1:GTask):Option (Bool) :=
  cond (!(x0.f0.toList==x1.f0.toList))
   (some (false))
   (cond (!(x0.f1.toList==x1.f1.toList))
    (some (false))
    (cond (x0.f2 != x1.f2)
     (some (false))
     (cond (!(x0.f3==x1.f3))
      (some (false))
      (if x0.f4=x1.f4 then if ak.sm x0.f4 then cond (yes x0.f4 x1.f4)
       (some (true))
       (some (false)) else none else none))))
theorem Fc (x0 x1:GTask):Ans (rn x0 x1) (fun r=>Does E 57 [.agg (GTask.t .far x0),.agg (GTask.t .far x1)] [(false,[tB r])]):=by
 unfold rn
 apply KE<;>intro h0
 ·exact KB (DP Tryz.f57 [.b true] (AC h0<|AN))
 ·apply KE<;>intro h1
  ·exact KB (DP Tryz.f57 [.b false,.b true] (AC h0<|AC h1<|AN))
  ·apply KE<;>intro h2
   ·exact KB (DP Tryz.f57 [.b false,.b false,.b true] (AC h0<|AC h1<|AC h2<|AN))
   ·apply KE<;>intro h3
    ·exact KB (DP Tryz.f57 [.b false,.b false,.b false,.b true] (AC h0<|AC h1<|AC h2<|AC h3<|AN))
    ·refine KG (fun h4 => ?_)
     refine KG (fun h5 => ?_)
     apply KE<;>intro h6
     ·exact KB (DP Tryz.f57 [.b false,.b false,.b false,.b false,rT] (AC h0<|AC h1<|AC h2<|AC h3<|AD (KJ (rO x0.f4 x1.f4 h4 h5) h6)<|AN))
     ·exact KB (DP Tryz.f57 [.b false,.b false,.b false,.b false,rF] (AC h0<|AC h1<|AC h2<|AC h3<|AD (KJ (rO x0.f4 x1.f4 h4 h5) h6)<|AN))
theorem vM (x0:GTask) (x1:GTask) (e:x0=x1) (h:ak.sm x0):Does E 57 [.agg (GTask.t .far x0),.agg (GTask.t .far x1)] [(false,[tB (yes x0 x1)])]:=by
 subst e
 obtain ⟨w0,w1,w4⟩:=h
 exact Fc x0 x0 _ (by
  unfold rn
  simp only [w4,if_true,yes,bne_self_eq_false,BEq.rfl,Bool.not_true,cond_false,cond_true])
inductive tE where
 | ret (v4:Bool)
 | x0 
def gN (q0:Kd) (q1:Kd) (v0 v1:List GTask) (v5:Int):US:=stL 27 [(0,.one (.s .far () 5 (v0.map (GTask.t q0)))),(1,.one (.s .far () 5 (v1.map (GTask.t q1)))),(5,.one (tI v5))]
def lQ (q0:Kd) (q1:Kd) (zv4:Bool):US:=stL 27 [(4,.one (tB zv4))]
def mq (q0:Kd) (q1:Kd)  : US:=stL 27 []
abbrev oB:US→Exit→US→Prop:=Round E 31 (az Tryz.f31 0)
def Bq {q0:Kd} {q1:Kd} (v0 v1:List GTask) (v5:Int):tE→Prop
 | .ret zv4=>Loops E 31 (az Tryz.f31 0) (gN q0 q1 v0 v1 v5) .ret (lQ q0 q1 zv4)
 | .x0=>Loops E 31 (az Tryz.f31 0) (gN q0 q1 v0 v1 v5) (.exit 0) (mq q0 q1)
noncomputable def fK (v1:List GTask):List GTask→Nat→Option tE
 | [],i=>some (.x0)
 | hd::rest,i=>(aq v1 (i:Int)).bind fun g1=>if hd=g1 then if ak.sm hd then cond (yes hd g1)
  (fK v1 rest (i+1))
  (some (.ret false)) else none else none
theorem Bp {q0:Kd} {q1:Kd} (v0 v1:List GTask) (rest:List GTask):∀ (i:Nat) ,(v0).drop i=rest→v0.length≤9223372036854775807→Ans (fK v1 rest i) (Bq (q0:=q0) (q1:=q1) v0 v1 (i:Int)):=by
 induction rest with
 | nil =>
  intro i hE hl
  have hb:=br hE
  unfold fK
  exact KB (KD (show oB (gN q0 q1 v0 v1 (i:Int)) (.exit 0) (mq q0 q1) from RP [.val (.int .i64 (v0.length:Int)),.b false] (ALn v0 (GTask.t q0)<|AC hb<|AN)) (by intro h;cases h))
 | cons hd rest ih =>
  intro i hE hl
  have hb:=bd hE
  have hw:=be hE hl
  have hE2:=aJ hE
  have hg:=ba hE
  unfold fK
  refine KF (fun g1 h2 => ?_)
  refine KG (fun h3 => ?_)
  refine KG (fun h4 => ?_)
  apply KE<;>intro h5
  ·exact (ih (i+1) hE2 hl).mono fun y hy=>by have r:oB (gN q0 q1 v0 v1 (i:Int)) .normal (gN q0 q1 v0 v1 (inc (i:Int))):=RP [.val (.int .i64 (v0.length:Int)),.b true,.row ((GTask.t q0) hd),.row ((GTask.t q1) g1),rT] (ALn v0 (GTask.t q0)<|AC hb<|AR (GTask.t q0) hg<|AR (GTask.t q1) h2<|AD (KJ (vM hd g1 h3 h4) h5)<|AN);rw [hw] at r;cases y<;>exact KC r hy
  ·exact KB (KD (show oB (gN q0 q1 v0 v1 (i:Int)) .ret (lQ q0 q1 false) from RP [.val (.int .i64 (v0.length:Int)),.b true,.row ((GTask.t q0) hd),.row ((GTask.t q1) g1),rF] (ALn v0 (GTask.t q0)<|AC hb<|AR (GTask.t q0) hg<|AR (GTask.t q1) h2<|AD (KJ (vM hd g1 h3 h4) h5)<|AN)) (by intro h;cases h))
noncomputable def pM (x0 x1:List GTask):Option (Bool) :=
  cond ((x0.length:Int) != (x1.length:Int))
   (some (false))
   (if x0.length≤9223372036854775807 then (fK x1 x0 0).bind fun y=>match y with
    | .ret w0_4=>(some (w0_4))
    | .x0=>(some (true)) else none)
theorem Dd {q0:Kd} {q1:Kd} (x0 x1:List GTask):Ans (pM x0 x1) (fun r=>Does E 31 [.one (.s .far () 5 (x0.map (GTask.t q0))),.one (.s .far () 5 (x1.map (GTask.t q1)))] [(false,[tB r])]):=by
 unfold pM
 apply KE<;>intro h0
 ·exact KB (DP Tryz.f31 [.val (.int .i64 (x0.length:Int)),.val (.int .i64 (x1.length:Int)),.b true] (ALn x0 (GTask.t q0)<|ALn x1 (GTask.t q1)<|AC h0<|AN))
 ·refine KG (fun hl2 => ?_)
  refine KF (fun y hy => ?_)
  replace hy:=Bp (q0:=q0) (q1:=q1) x0 x1 x0 0 rfl hl2 y hy
  cases y with
  | ret w0_4 =>
   have h1:=hy
   exact KB (DP Tryz.f31 [.val (.int .i64 (x0.length:Int)),.val (.int .i64 (x1.length:Int)),.b false,.lp .ret (lQ q0 q1 w0_4)] (ALn x0 (GTask.t q0)<|ALn x1 (GTask.t q1)<|AC h0<|AL h1<|AN))
  | x0 =>
   have h1:=hy
   exact KB (DP Tryz.f31 [.val (.int .i64 (x0.length:Int)),.val (.int .i64 (x1.length:Int)),.b false,.lp (.exit 0) (mq q0 q1)] (ALn x0 (GTask.t q0)<|ALn x1 (GTask.t q1)<|AC h0<|AL h1<|AN))
theorem sT (l:List GTask):∀ (rest:List GTask) (i:Nat),l.drop i=rest→(∀ y∈rest,ak.sm y)→fK l rest i=some .x0
 | [],i,_,_=>rfl
 | x::rest,i,hE,h=>by
  have hx:=h x (by simp)
  unfold fK
  rw [ba hE,Option.bind_some]
  simp only [hx,if_true,yes,bne_self_eq_false,BEq.rfl,Bool.not_true,cond_false,cond_true]
  exact sT l rest (i+1) (aJ hE) (fun y hy=>h y (by simp [hy]))
theorem ut {q0:Kd} {q1:Kd} (x0:List GTask) (x1:List GTask) (e:x0=x1) (h:ak.sm x0):Does E 31 [.one (.s .far () 5 (x0.map (GTask.t q0))),.one (.s .far () 5 (x1.map (GTask.t q1)))] [(false,[tB (yes x0 x1)])]:=by
 subst e
 exact Dd x0 x0 _ (by
  unfold pM
  rw [if_pos (lj h),sT x0 x0 0 rfl h.2]
  simp [yes])
noncomputable def tC (x0 x1:GDag):Option (Bool) :=
  cond (!(x0.f0.toList==x1.f0.toList))
   (some (false))
   (cond (!(x0.f1.toList==x1.f1.toList))
    (some (false))
    (cond (x0.f2 != x1.f2)
     (some (false))
     (cond (x0.f3 != x1.f3)
      (some (false))
      (cond (!(x0.f4==x1.f4))
       (some (false))
       (if x0.f5=x1.f5 then if ak.sm x0.f5 then cond (yes x0.f5 x1.f5)
        (some (true))
        (some (false)) else none else none)))))
theorem Gt {q0:Kd} {q1:Kd} (x0 x1:GDag):Ans (tC x0 x1) (fun r=>Does E 12 [.agg (GDag.t .far q0 x0),.agg (GDag.t .far q1 x1)] [(false,[tB r])]):=by
 unfold tC
 apply KE<;>intro h0
 ·exact KB (DP Tryz.f12 [.b true] (AC h0<|AN))
 ·apply KE<;>intro h1
  ·exact KB (DP Tryz.f12 [.b false,.b true] (AC h0<|AC h1<|AN))
  ·apply KE<;>intro h2
   ·exact KB (DP Tryz.f12 [.b false,.b false,.b true] (AC h0<|AC h1<|AC h2<|AN))
   ·apply KE<;>intro h3
    ·exact KB (DP Tryz.f12 [.b false,.b false,.b false,.b true] (AC h0<|AC h1<|AC h2<|AC h3<|AN))
    ·apply KE<;>intro h4
     ·exact KB (DP Tryz.f12 [.b false,.b false,.b false,.b false,.b true] (AC h0<|AC h1<|AC h2<|AC h3<|AC h4<|AN))
     ·refine KG (fun h5 => ?_)
      refine KG (fun h6 => ?_)
      apply KE<;>intro h7
      ·exact KB (DP Tryz.f12 [.b false,.b false,.b false,.b false,.b false,rT] (AC h0<|AC h1<|AC h2<|AC h3<|AC h4<|AV (ψ:=fun k=>E.C k 31 [.one (.s .far () 5 (x0.f5.map (GTask.t q0))),.one (.s .far () 5 (x1.f5.map (GTask.t q1)))]=some [(false,[tB true])]) (KH (ut x0.f5 x1.f5 h5 h6) (by rw [h7]))<|AN))
      ·exact KB (DP Tryz.f12 [.b false,.b false,.b false,.b false,.b false,rF] (AC h0<|AC h1<|AC h2<|AC h3<|AC h4<|AV (ψ:=fun k=>E.C k 31 [.one (.s .far () 5 (x0.f5.map (GTask.t q0))),.one (.s .far () 5 (x1.f5.map (GTask.t q1)))]=some [(false,[tB false])]) (KH (ut x0.f5 x1.f5 h5 h6) (by rw [h7]))<|AN))
theorem kY {q0:Kd} {q1:Kd} (x0:GDag) (x1:GDag) (e:x0=x1) (h:ak.sm x0):Does E 12 [.agg (GDag.t .far q0 x0),.agg (GDag.t .far q1 x1)] [(false,[tB (yes x0 x1)])]:=by
 subst e
 obtain ⟨w0,w1,w5⟩:=h
 exact Gt x0 x0 _ (by
  unfold tC
  simp only [w5,if_true,yes,bne_self_eq_false,BEq.rfl,Bool.not_true,cond_false,cond_true])
end Go.Proofs.YtgaiiephdjllkaaGreatDoor.Am
namespace Go.Proofs.YtgaiiephdjllkaaGreatDoor.Am
open Go Go.Proofs Classical
set_option maxRecDepth 100000
set_option linter.unusedVariables false
set_option linter.unusedSimpArgs false
noncomputable def gO (x0:List GState) (x1:Int):Option (Int) :=
  cond (decide ((IntKind.wrap .i64 (x1-(x0.length:Int)))<(0:Int)))
   (some ((-1:Int)))
   (some (IntKind.wrap .i64 (x1-(x0.length:Int))))
theorem Br (x0:List GState) (x1:Int):Ans (gO x0 x1) (fun r=>Does E 35 [.one (.s .far () 4 (x0.map GState.t)),.one (tI x1)] [(false,[tI r])]):=by
 unfold gO
 apply KE<;>intro h0
 ·exact KB (DP Tryz.f35 [.val (.int .i64 (x0.length:Int)),.no,.b true] (ALn x0 GState.t<|AC h0<|AN))
 ·exact KB (DP Tryz.f35 [.val (.int .i64 (x0.length:Int)),.no,.b false] (ALn x0 GState.t<|AC h0<|AN))
noncomputable def dC (x:List GState) (n:Int):Int:=(gO x n).getD (-1)
theorem qF (x:List GState) (n:Int) (h:Wf.wf x):gO x n=some (dC x n):=by
 refine Tot.getD ?_ _
 unfold gO
 refine Tot.cond (Tot.some _) ?_
 exact Tot.some _
theorem sL (x0:List GState) (x1:Int) (h:Wf.wf x0):Does E 35 [.one (.s .far () 4 (x0.map GState.t)),.one (tI x1)] [(false,[tI (dC x0 x1)])]:=by
 exact Br x0 x1 _ (qF x0 x1 h)
theorem zn (x:List GState) (n:Int) (hw:Wf.wf x) (h0:0≤n) (h1:n≤1048576) (h:0≤dC x n):dC x n≤n∧ak.sm x:=by
 have e:=qF x n hw
 generalize dC x n=r at *
 unfold gO at e
 obtain ⟨a1,e⟩:=ju e h
 obtain ⟨b1,c1⟩:=nY (n:=n) (k:=x.length) h0 h1 hw.1 a1
 cases e
 exact ⟨b1,iv c1,fun y _=>trivial⟩
noncomputable def lf (x0:LRun) (x1:Int):Option (Int) :=
  cond (decide ((IntKind.wrap .i64 (x1-(x0.f0.size:Int)))<(0:Int)))
   (some ((-1:Int)))
   (if Wf.wf x0.f3 then cond (decide ((dC x0.f3 (IntKind.wrap .i64 (x1-(x0.f0.size:Int))))<(0:Int)))
    (some ((-1:Int)))
    (some (dC x0.f3 (IntKind.wrap .i64 (x1-(x0.f0.size:Int))))) else none)
theorem Gw (x0:LRun) (x1:Int):Ans (lf x0 x1) (fun r=>Does E 16 [.agg (LRun.t .far x0),.one (tI x1)] [(false,[tI r])]):=by
 unfold lf
 apply KE<;>intro h0
 ·exact KB (DP Tryz.f16 [.no,.b true] (AC h0<|AN))
 ·refine KG (fun h1 => ?_)
  apply KE<;>intro h2
  ·exact KB (DP Tryz.f16 [.no,.b false,.ret [(false,[tI (dC x0.f3 (IntKind.wrap .i64 (x1-(x0.f0.size:Int))))])],.b true] (AC h0<|AD (sL x0.f3 (IntKind.wrap .i64 (x1-(x0.f0.size:Int))) h1)<|AC h2<|AN))
  ·exact KB (DP Tryz.f16 [.no,.b false,.ret [(false,[tI (dC x0.f3 (IntKind.wrap .i64 (x1-(x0.f0.size:Int))))])],.b false] (AC h0<|AD (sL x0.f3 (IntKind.wrap .i64 (x1-(x0.f0.size:Int))) h1)<|AC h2<|AN))
noncomputable def cu (x:LRun) (n:Int):Int:=(lf x n).getD (-1)
theorem ve (x:LRun) (n:Int) (h:Wf.wf x):lf x n=some (cu x n):=by
 obtain ⟨w0,w1,w3⟩:=h
 refine Tot.getD ?_ _
 unfold lf
 repeat' (first | exact Tot.some _ | apply Tot.cond | refine Tot.ite (by assumption) ?_)
theorem fj (x0:LRun) (x1:Int) (h:Wf.wf x0):Does E 16 [.agg (LRun.t .far x0),.one (tI x1)] [(false,[tI (cu x0 x1)])]:=by
 exact Gw x0 x1 _ (ve x0 x1 h)
theorem wB (x:LRun) (n:Int) (hw:Wf.wf x) (h0:0≤n) (h1:n≤1048576) (h:0≤cu x n):cu x n≤n∧ak.sm x:=by
 have e:=ve x n hw
 obtain ⟨w0,w1,w3⟩:=hw
 generalize cu x n=r at *
 unfold lf at e
 obtain ⟨a1,e⟩:=ju e h
 obtain ⟨b1,c1⟩:=nY (n:=n) (k:=x.f0.size) h0 (by omega) w0 a1
 generalize IntKind.wrap .i64 (n-(x.f0.size:Int))=m1 at *
 try rw [if_pos w3] at e
 obtain ⟨a2,e⟩:=ju e h
 try rw [if_pos w3] at e
 obtain ⟨b2,c2⟩:=zn x.f3 m1 w3 a1 (by omega) a2
 generalize dC x.f3 m1=m2 at *
 cases e
 exact ⟨by omega,⟨iv c1,trivial,c2⟩⟩
noncomputable def ro (x0:GSpan):Option (GSpan) :=
  some (x0)
theorem Fe (x0:GSpan):Ans (ro x0) (fun r=>Does E 9 [.agg (GSpan.t x0)] [(true,GSpan.t r)]):=by
 unfold ro
 exact KB (DP Tryz.f9 [] AN)
def nS (x:GSpan):GSpan:=x
theorem Em (x0:GSpan) (h:ak.sm x0):Does E 9 [.agg (GSpan.t x0)] [(true,GSpan.t (nS x0))]:=by
 skip
 exact Fe x0 _ (by
  unfold ro
  repeat rw [if_pos (by assumption)]
  rfl)
noncomputable def pN (x0:GState):Option (GState) :=
  some (x0)
theorem Df (x0:GState):Ans (pN x0) (fun r=>Does E 61 [.agg (GState.t x0)] [(true,GState.t r)]):=by
 unfold pN
 exact KB (DP Tryz.f61 [] AN)
def c7 (x:GState):GState:=x
theorem CA (x0:GState) (h:ak.sm x0):Does E 61 [.agg (GState.t x0)] [(true,GState.t (c7 x0))]:=by
 skip
 exact Df x0 _ (by
  unfold pN
  repeat rw [if_pos (by assumption)]
  rfl)
inductive r8 where
 | x0 (v3:List GState)
def ku (v0 v3:List GState) (v4:Int):US:=stL 23 [(0,.one (.s .far () 4 (v0.map GState.t))),(3,.one (.s .own () 4 (v3.map GState.t))),(4,.one (tI v4))]
def lS (zv3:List GState):US:=stL 23 [(3,.one (.s .own () 4 (zv3.map GState.t)))]
abbrev r7:US→Exit→US→Prop:=Round E 37 (az Tryz.f37 0)
def zl (v0 v3:List GState) (v4:Int):r8→Prop
 | .x0 zv3=>Loops E 37 (az Tryz.f37 0) (ku v0 v3 v4) (.exit 0) (lS zv3)
noncomputable def em  : List GState→Nat→(List GState)→Option r8
 | [],i,v3=>some (.x0 v3)
 | hd::rest,i,v3=>if ak.sm hd then (aq v3 (i:Int)).bind fun g1=>em rest (i+1) (v3.set (i:Int).toNat (c7 hd)) else none
theorem zk (v0:List GState) (rest:List GState):∀ (i:Nat) (v3:List GState),(v0).drop i=rest→v0.length≤9223372036854775807→Ans (em rest i v3) (zl v0 v3 (i:Int)):=by
 induction rest with
 | nil =>
  intro i v3 hE hl
  have hb:=br hE
  unfold em
  exact KB (KD (show r7 (ku v0 v3 (i:Int)) (.exit 0) (lS v3) from RP [.val (.int .i64 (v0.length:Int)),.b false] (ALn v0 GState.t<|AC hb<|AN)) (by intro h;cases h))
 | cons hd rest ih =>
  intro i v3 hE hl
  have hb:=bd hE
  have hw:=be hE hl
  have hE2:=aJ hE
  have hg:=ba hE
  unfold em
  refine KG (fun h2 => ?_)
  refine KF (fun g1 h3 => ?_)
  exact (ih (i+1) (v3.set (i:Int).toNat (c7 hd)) hE2 hl).mono fun y hy=>by have r:r7 (ku v0 v3 (i:Int)) .normal (ku v0 (v3.set (i:Int).toNat (c7 hd)) (inc (i:Int))):=RP [.val (.int .i64 (v0.length:Int)),.b true,.row (GState.t hd),.ret [(true,GState.t (c7 hd))],.row (GState.t g1),.rows ((v3.set (i:Int).toNat (c7 hd)).map GState.t)] (ALn v0 GState.t<|AC hb<|AR GState.t hg<|AD (CA hd h2)<|AG GState.t h3<|AC (p:=(v3.map GState.t).set (0+(i:Int).toNat) (aA (GState.t g1) 0 [tI ((c7 hd).f0),tI ((c7 hd).f1),tI ((c7 hd).f2),tI ((c7 hd).f3)])=(v3.set (i:Int).toNat (c7 hd)).map GState.t) (gr (by rfl))<|AN);rw [hw] at r;cases y<;>exact KC r hy
noncomputable def oD (x0:List GState):Option ((List GState)) :=
  if 0≤(x0.length:Int)∧(x0.length:Int)≤(x0.length:Int)∧((32:Nat):Int)*(x0.length:Int)≤281474976710656∧(x0.length:Int)≤4611686018427387904 then if x0.length≤9223372036854775807 then (em x0 0 (List.replicate (x0.length:Int).toNat (GState.mk (0:Int) (0:Int) (0:Int) (0:Int)))).bind fun y=>match y with
   | .x0 w0_3=>(some (w0_3)) else none else none
theorem Bu (x0:List GState):Ans (oD x0) (fun r=>Does E 37 [.one (.s .far () 4 (x0.map GState.t))] [(false,[.s .own () 4 (r.map GState.t)])]):=by
 unfold oD
 refine KG (fun h0 => ?_)
 refine KG (fun hl1 => ?_)
 refine KF (fun y hy => ?_)
 replace hy:=zk x0 x0 0 (List.replicate (x0.length:Int).toNat (GState.mk (0:Int) (0:Int) (0:Int) (0:Int))) rfl hl1 y hy
 cases y with
 | x0 w0_3 =>
  have h1:=hy
  exact KB (DP Tryz.f37 [.val (.int .i64 (x0.length:Int)),.rows ((List.replicate (x0.length:Int).toNat (GState.mk (0:Int) (0:Int) (0:Int) (0:Int))).map GState.t),.lp (.exit 0) (lS w0_3)] (ALn x0 GState.t<|AC h0<|AC (p:=List.replicate (x0.length:Int).toNat [tI (0:Int),tI (0:Int),tI (0:Int),tI (0:Int)]=(List.replicate (x0.length:Int).toNat (GState.mk (0:Int) (0:Int) (0:Int) (0:Int))).map GState.t) (oG rfl)<|AL h1<|AN))
def jn (l:List GState):List GState:=l
theorem rR:∀ (rest:List GState) (i:Nat) (v:List GState),(∀ y∈rest,ak.sm y)→v.length=i+rest.length→em rest i v=some (.x0 (v.take i++rest))
 | [],i,v,_,hv=>by unfold em;rw [List.take_of_length_le (by simp at hv;omega)];simp
 | x::rest,i,v,h,hv=>by
  have hx:=h x (by simp)
  have hi:i<v.length:=by simp at hv;omega
  unfold em
  rw [ex,List.getElem?_eq_getElem hi,Option.bind_some]
  try rw [if_pos hx]
  rw [Int.toNat_natCast,rR rest (i+1) _ (fun y hy=>h y (by simp [hy])) (by simp at hv ⊢;omega),yj hi]
  simp [c7]
theorem Al (x0:List GState) (h:ak.sm x0):Does E 37 [.one (.s .far () 4 (x0.map GState.t))] [(false,[.s .own () 4 ((jn x0).map GState.t)])]:=by
 exact Bu x0 _ (by
  unfold oD
  rw [if_pos (BA 32 (by decide) h.1 rfl),if_pos (lj h),rR x0 0 _ h.2 (by simp)]
  simp [jn])
noncomputable def tH (x0:LRun):Option (GRun) :=
  if ak.sm x0.f1 then if ak.sm x0.f3 then some ((GRun.mk x0.f0 (nS x0.f1) x0.f2 (jn x0.f3))) else none else none
theorem Gy (x0:LRun):Ans (tH x0) (fun r=>Does E 18 [.agg (LRun.t .far x0)] [(true,GRun.t .own r)]):=by
 unfold tH
 refine KG (fun h0 => ?_)
 refine KG (fun h1 => ?_)
 exact KB (DP Tryz.f18 [.ret [(true,GSpan.t (nS x0.f1))],.ret [(false,[.s .own () 4 ((jn x0.f3).map GState.t)])]] (AD (Em x0.f1 h0)<|AD (Al x0.f3 h1)<|AN))
def am (x:LRun):GRun:=⟨x.f0,nS x.f1,x.f2,jn x.f3⟩
theorem wU {x:LRun} (h:ak.sm x):ak.sm (am x):=by
 obtain ⟨w0,w1,w3⟩:=h
 exact ⟨w0,w1,w3⟩
theorem bU (x0:LRun) (h:ak.sm x0):Does E 18 [.agg (LRun.t .far x0)] [(true,GRun.t .own (am x0))]:=by
 obtain ⟨w0,w1,w3⟩:=h
 exact Gy x0 _ (by
  unfold tH
  repeat rw [if_pos (by assumption)]
  rfl)
noncomputable def rm (x0 x1:GSpan):Option (Bool) :=
  cond (x0.f0 != x1.f0)
   (some (false))
   (cond (x0.f1 != x1.f1)
    (some (false))
    (some (true)))
theorem Fb (x0 x1:GSpan):Ans (rm x0 x1) (fun r=>Does E 29 [.agg (GSpan.t x0),.agg (GSpan.t x1)] [(false,[tB r])]):=by
 unfold rm
 apply KE<;>intro h0
 ·exact KB (DP Tryz.f29 [.b true] (AC h0<|AN))
 ·apply KE<;>intro h1
  ·exact KB (DP Tryz.f29 [.b false,.b true] (AC h0<|AC h1<|AN))
  ·exact KB (DP Tryz.f29 [.b false,.b false] (AC h0<|AC h1<|AN))
theorem nH (x0:GSpan) (x1:GSpan) (e:x0=x1) (h:ak.sm x0):Does E 29 [.agg (GSpan.t x0),.agg (GSpan.t x1)] [(false,[tB (yes x0 x1)])]:=by
 subst e
 skip
 exact Fb x0 x0 _ (by
  unfold rm
  simp only [if_true,yes,bne_self_eq_false,BEq.rfl,Bool.not_true,cond_false,cond_true])
noncomputable def pL (x0 x1:GState):Option (Bool) :=
  cond (x0.f0 != x1.f0)
   (some (false))
   (cond (x0.f1 != x1.f1)
    (some (false))
    (cond (x0.f2 != x1.f2)
     (some (false))
     (cond (x0.f3 != x1.f3)
      (some (false))
      (some (true)))))
theorem Db (x0 x1:GState):Ans (pL x0 x1) (fun r=>Does E 56 [.agg (GState.t x0),.agg (GState.t x1)] [(false,[tB r])]):=by
 unfold pL
 apply KE<;>intro h0
 ·exact KB (DP Tryz.f56 [.b true] (AC h0<|AN))
 ·apply KE<;>intro h1
  ·exact KB (DP Tryz.f56 [.b false,.b true] (AC h0<|AC h1<|AN))
  ·apply KE<;>intro h2
   ·exact KB (DP Tryz.f56 [.b false,.b false,.b true] (AC h0<|AC h1<|AC h2<|AN))
   ·apply KE<;>intro h3
    ·exact KB (DP Tryz.f56 [.b false,.b false,.b false,.b true] (AC h0<|AC h1<|AC h2<|AC h3<|AN))
    ·exact KB (DP Tryz.f56 [.b false,.b false,.b false,.b false] (AC h0<|AC h1<|AC h2<|AC h3<|AN))
theorem ur (x0:GState) (x1:GState) (e:x0=x1) (h:ak.sm x0):Does E 56 [.agg (GState.t x0),.agg (GState.t x1)] [(false,[tB (yes x0 x1)])]:=by
 subst e
 skip
 exact Db x0 x0 _ (by
  unfold pL
  simp only [if_true,yes,bne_self_eq_false,BEq.rfl,Bool.not_true,cond_false,cond_true])
inductive r6 where
 | ret (v4:Bool)
 | x0 
def fT (v0 v1:List GState) (v5:Int):US:=stL 27 [(0,.one (.s .far () 4 (v0.map GState.t))),(1,.one (.s .far () 4 (v1.map GState.t))),(5,.one (tI v5))]
def kN (zv4:Bool):US:=stL 27 [(4,.one (tB zv4))]
def lP  : US:=stL 27 []
abbrev np:US→Exit→US→Prop:=Round E 30 (az Tryz.f30 0)
def zh (v0 v1:List GState) (v5:Int):r6→Prop
 | .ret zv4=>Loops E 30 (az Tryz.f30 0) (fT v0 v1 v5) .ret (kN zv4)
 | .x0=>Loops E 30 (az Tryz.f30 0) (fT v0 v1 v5) (.exit 0) (lP)
noncomputable def fb (v1:List GState):List GState→Nat→Option r6
 | [],i=>some (.x0)
 | hd::rest,i=>(aq v1 (i:Int)).bind fun g1=>if hd=g1 then if ak.sm hd then cond (yes hd g1)
  (fb v1 rest (i+1))
  (some (.ret false)) else none else none
theorem zg (v0 v1:List GState) (rest:List GState):∀ (i:Nat) ,(v0).drop i=rest→v0.length≤9223372036854775807→Ans (fb v1 rest i) (zh v0 v1 (i:Int)):=by
 induction rest with
 | nil =>
  intro i hE hl
  have hb:=br hE
  unfold fb
  exact KB (KD (show np (fT v0 v1 (i:Int)) (.exit 0) (lP) from RP [.val (.int .i64 (v0.length:Int)),.b false] (ALn v0 GState.t<|AC hb<|AN)) (by intro h;cases h))
 | cons hd rest ih =>
  intro i hE hl
  have hb:=bd hE
  have hw:=be hE hl
  have hE2:=aJ hE
  have hg:=ba hE
  unfold fb
  refine KF (fun g1 h2 => ?_)
  refine KG (fun h3 => ?_)
  refine KG (fun h4 => ?_)
  apply KE<;>intro h5
  ·exact (ih (i+1) hE2 hl).mono fun y hy=>by have r:np (fT v0 v1 (i:Int)) .normal (fT v0 v1 (inc (i:Int))):=RP [.val (.int .i64 (v0.length:Int)),.b true,.row (GState.t hd),.row (GState.t g1),rT] (ALn v0 GState.t<|AC hb<|AR GState.t hg<|AR GState.t h2<|AD (KJ (ur hd g1 h3 h4) h5)<|AN);rw [hw] at r;cases y<;>exact KC r hy
  ·exact KB (KD (show np (fT v0 v1 (i:Int)) .ret (kN false) from RP [.val (.int .i64 (v0.length:Int)),.b true,.row (GState.t hd),.row (GState.t g1),rF] (ALn v0 GState.t<|AC hb<|AR GState.t hg<|AR GState.t h2<|AD (KJ (ur hd g1 h3 h4) h5)<|AN)) (by intro h;cases h))
noncomputable def oA (x0 x1:List GState):Option (Bool) :=
  cond ((x0.length:Int) != (x1.length:Int))
   (some (false))
   (if x0.length≤9223372036854775807 then (fb x1 x0 0).bind fun y=>match y with
    | .ret w0_4=>(some (w0_4))
    | .x0=>(some (true)) else none)
theorem Bo (x0 x1:List GState):Ans (oA x0 x1) (fun r=>Does E 30 [.one (.s .far () 4 (x0.map GState.t)),.one (.s .far () 4 (x1.map GState.t))] [(false,[tB r])]):=by
 unfold oA
 apply KE<;>intro h0
 ·exact KB (DP Tryz.f30 [.val (.int .i64 (x0.length:Int)),.val (.int .i64 (x1.length:Int)),.b true] (ALn x0 GState.t<|ALn x1 GState.t<|AC h0<|AN))
 ·refine KG (fun hl2 => ?_)
  refine KF (fun y hy => ?_)
  replace hy:=zg x0 x1 x0 0 rfl hl2 y hy
  cases y with
  | ret w0_4 =>
   have h1:=hy
   exact KB (DP Tryz.f30 [.val (.int .i64 (x0.length:Int)),.val (.int .i64 (x1.length:Int)),.b false,.lp .ret (kN w0_4)] (ALn x0 GState.t<|ALn x1 GState.t<|AC h0<|AL h1<|AN))
  | x0 =>
   have h1:=hy
   exact KB (DP Tryz.f30 [.val (.int .i64 (x0.length:Int)),.val (.int .i64 (x1.length:Int)),.b false,.lp (.exit 0) (lP)] (ALn x0 GState.t<|ALn x1 GState.t<|AC h0<|AL h1<|AN))
theorem rS (l:List GState):∀ (rest:List GState) (i:Nat),l.drop i=rest→(∀ y∈rest,ak.sm y)→fb l rest i=some .x0
 | [],i,_,_=>rfl
 | x::rest,i,hE,h=>by
  have hx:=h x (by simp)
  unfold fb
  rw [ba hE,Option.bind_some]
  simp only [hx,if_true,yes,bne_self_eq_false,BEq.rfl,Bool.not_true,cond_false,cond_true]
  exact rS l rest (i+1) (aJ hE) (fun y hy=>h y (by simp [hy]))
theorem sK (x0:List GState) (x1:List GState) (e:x0=x1) (h:ak.sm x0):Does E 30 [.one (.s .far () 4 (x0.map GState.t)),.one (.s .far () 4 (x1.map GState.t))] [(false,[tB (yes x0 x1)])]:=by
 subst e
 exact Bo x0 x0 _ (by
  unfold oA
  rw [if_pos (lj h),rS x0 x0 0 rfl h.2]
  simp [yes])
noncomputable def tD (x0 x1:GRun):Option (Bool) :=
  cond (!(x0.f0.toList==x1.f0.toList))
   (some (false))
   (if x0.f1=x1.f1 then if ak.sm x0.f1 then cond (yes x0.f1 x1.f1)
    (cond (x0.f2 != x1.f2)
     (some (false))
     (if x0.f3=x1.f3 then if ak.sm x0.f3 then cond (yes x0.f3 x1.f3)
      (some (true))
      (some (false)) else none else none))
    (some (false)) else none else none)
theorem Gu (x0 x1:GRun):Ans (tD x0 x1) (fun r=>Does E 11 [.agg (GRun.t .far x0),.agg (GRun.t .far x1)] [(false,[tB r])]):=by
 unfold tD
 apply KE<;>intro h0
 ·exact KB (DP Tryz.f11 [.b true] (AC h0<|AN))
 ·refine KG (fun h1 => ?_)
  refine KG (fun h2 => ?_)
  apply KE<;>intro h3
  ·apply KE<;>intro h4
   ·exact KB (DP Tryz.f11 [.b false,rT,.b true] (AC h0<|AD (KJ (nH x0.f1 x1.f1 h1 h2) h3)<|AC h4<|AN))
   ·refine KG (fun h5 => ?_)
    refine KG (fun h6 => ?_)
    apply KE<;>intro h7
    ·exact KB (DP Tryz.f11 [.b false,rT,.b false,rT] (AC h0<|AD (KJ (nH x0.f1 x1.f1 h1 h2) h3)<|AC h4<|AD (KJ (sK x0.f3 x1.f3 h5 h6) h7)<|AN))
    ·exact KB (DP Tryz.f11 [.b false,rT,.b false,rF] (AC h0<|AD (KJ (nH x0.f1 x1.f1 h1 h2) h3)<|AC h4<|AD (KJ (sK x0.f3 x1.f3 h5 h6) h7)<|AN))
  ·exact KB (DP Tryz.f11 [.b false,rF] (AC h0<|AD (KJ (nH x0.f1 x1.f1 h1 h2) h3)<|AN))
theorem oZ (x0:GRun) (x1:GRun) (e:x0=x1) (h:ak.sm x0):Does E 11 [.agg (GRun.t .far x0),.agg (GRun.t .far x1)] [(false,[tB (yes x0 x1)])]:=by
 subst e
 obtain ⟨w0,w1,w3⟩:=h
 exact Gu x0 x0 _ (by
  unfold tD
  simp only [w1,w3,if_true,yes,bne_self_eq_false,BEq.rfl,Bool.not_true,cond_false,cond_true])
end Go.Proofs.YtgaiiephdjllkaaGreatDoor.Am
