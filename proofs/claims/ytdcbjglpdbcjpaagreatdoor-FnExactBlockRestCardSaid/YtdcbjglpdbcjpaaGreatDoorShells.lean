/- What the functions that measure, copy and compare plans and runs do. -/
import Derived.Test.YtdcbjglpdbcjpaaGreatDoorPlans
namespace Go.Proofs.YtdcbjglpdbcjpaaGreatDoor.Am
open Go Go.Proofs Classical
set_option maxRecDepth 100000
set_option linter.unusedVariables false
set_option linter.unusedSimpArgs false
inductive qZ where
 | ret (v4:Int)
 | x0 (v1:Int)
def ga (v0:List ByteArray) (v1 v5:Int):US:=stL 28 [(0,.one (.s .far () 1 (v0.map etS))),(1,.one (tI v1)),(5,.one (tI v5))]
def kP (zv4:Int):US:=stL 28 [(4,.one (tI zv4))]
def lB (zv1:Int):US:=stL 28 [(1,.one (tI zv1))]
abbrev mX:US→Exit→US→Prop:=Round E 57 (aw Tryz.f57 0)
def yB (v0:List ByteArray) (v1 v5:Int):qZ→Prop
 | .ret zv4=>Loops E 57 (aw Tryz.f57 0) (ga v0 v1 v5) .ret (kP zv4)
 | .x0 zv1=>Loops E 57 (aw Tryz.f57 0) (ga v0 v1 v5) (.exit 0) (lB zv1)
noncomputable def dm  : List ByteArray→Nat→Int→Option qZ
 | [],i,v1=>some (.x0 v1)
 | hd::rest,i,v1=>cond (decide ((IntKind.wrap .i64 (v1-(hd.size:Int)))<(0:Int)))
  (some (.ret (-1:Int)))
  (dm rest (i+1) (IntKind.wrap .i64 (v1-(hd.size:Int))))
theorem yA (v0:List ByteArray) (rest:List ByteArray):∀ (i:Nat) (v1:Int),(v0).drop i=rest→v0.length≤9223372036854775807→Ans (dm rest i v1) (yB v0 v1 (i:Int)):=by
 induction rest with
 | nil =>
  intro i v1 hE hl
  have hb:=bo hE
  unfold dm
  exact KX (KZ (show mX (ga v0 v1 (i:Int)) (.exit 0) (lB v1) from RP [.val (.int .i64 (v0.length:Int)),.b false] (ALn v0 etS<|AC hb<|AN)) (by intro h;cases h))
 | cons hd rest ih =>
  intro i v1 hE hl
  have hb:=aY hE
  have hw:=aZ hE hl
  have hE2:=aH hE
  have hg:=bc hE
  unfold dm
  apply K0<;>intro h2
  ·exact KX (KZ (show mX (ga v0 v1 (i:Int)) .ret (kP (-1:Int)) from RP [.val (.int .i64 (v0.length:Int)),.b true,.row (etS hd),.no,.b true] (ALn v0 etS<|AC hb<|AR etS hg<|AC h2<|AN)) (by intro h;cases h))
  ·exact (ih (i+1) (IntKind.wrap .i64 (v1-(hd.size:Int))) hE2 hl).mono fun y hy=>by have r:mX (ga v0 v1 (i:Int)) .normal (ga v0 (IntKind.wrap .i64 (v1-(hd.size:Int))) (inc (i:Int))):=RP [.val (.int .i64 (v0.length:Int)),.b true,.row (etS hd),.no,.b false] (ALn v0 etS<|AC hb<|AR etS hg<|AC h2<|AN);rw [hw] at r;cases y<;>exact KY r hy
noncomputable def gC (x0:List ByteArray) (x1:Int):Option (Int) :=
  cond (decide ((IntKind.wrap .i64 (x1-(x0.length:Int)))<(0:Int)))
   (some ((-1:Int)))
   (if x0.length≤9223372036854775807 then (dm x0 0 (IntKind.wrap .i64 (x1-(x0.length:Int)))).bind fun y=>match y with
    | .ret w0_4=>(some (w0_4))
    | .x0 w0_1=>(some (w0_1)) else none)
theorem Ad (x0:List ByteArray) (x1:Int):Ans (gC x0 x1) (fun r=>Does E 57 [.one (.s .far () 1 (x0.map etS)),.one (tI x1)] [(false,[tI r])]):=by
 unfold gC
 apply K0<;>intro h0
 ·exact KX (DP Tryz.f57 [.val (.int .i64 (x0.length:Int)),.no,.b true] (ALn x0 etS<|AC h0<|AN))
 ·refine K2 (fun hl2 => ?_)
  refine K1 (fun y hy => ?_)
  replace hy:=yA x0 x0 0 (IntKind.wrap .i64 (x1-(x0.length:Int))) rfl hl2 y hy
  cases y with
  | ret w0_4 =>
   have h1:=hy
   exact KX (DP Tryz.f57 [.val (.int .i64 (x0.length:Int)),.no,.b false,.lp .ret (kP w0_4)] (ALn x0 etS<|AC h0<|AL h1<|AN))
  | x0 w0_1 =>
   have h1:=hy
   exact KX (DP Tryz.f57 [.val (.int .i64 (x0.length:Int)),.no,.b false,.lp (.exit 0) (lB w0_1)] (ALn x0 etS<|AC h0<|AL h1<|AN))
noncomputable def df (x:List ByteArray) (n:Int):Int:=(gC x n).getD (-1)
theorem rp:∀ (rest:List ByteArray) (i:Nat) (n:Int),(∀ y∈rest,Wf.wf y)→Tot (dm rest i n)
 | [],i,n,_=>Tot.some _
 | x::rest,i,n,h=>by
  have hx:=h x (by simp)
  have ih:=fun i n=>rp rest i n fun y hy=>h y (by simp [hy])
  unfold dm
  repeat' (first | exact Tot.some _ | exact ih _ _ | apply Tot.cond | refine Tot.ite (by assumption) ?_)
theorem p8 (x:List ByteArray) (n:Int) (h:Wf.wf x):gC x n=some (df x n):=by
 refine Tot.getD ?_ _
 unfold gC
 refine Tot.cond (Tot.some _) ?_
 refine Tot.ite h.1 (Tot.bind (rp x 0 _ h.2) fun y hy => ?_)
 cases y<;>exact Tot.some _
theorem sI (x0:List ByteArray) (x1:Int) (h:Wf.wf x0):Does E 57 [.one (.s .far () 1 (x0.map etS)),.one (tI x1)] [(false,[tI (df x0 x1)])]:=by
 exact Ad x0 x1 _ (p8 x0 x1 h)
theorem pT:∀ (rest:List ByteArray) (i:Nat) (n:Int),(∀ y∈rest,Wf.wf y)→0≤n→n≤1048576→∀ y,dm rest i n=some y →
  (∃ m,y = .x0 m∧0≤m∧m≤n∧∀ z∈rest,am.sm z)∨∃ m,y = .ret m∧m<0
 | [],i,n,_,h0,h1,y,e=>by cases e;exact .inl ⟨n,rfl,h0,Int.le_refl _,fun z hz=>by cases hz⟩
 | x::rest,i,n,h,h0,h1,y,e=>by
  have hx:=h x (by simp)
  unfold dm at e
  try rw [if_pos hx] at e
  by_cases q:IntKind.wrap .i64 (n-(x.size:Int))<0
  ·rw [decide_eq_true q,cond_true] at e
   cases e
   exact .inr ⟨_,rfl,by omega⟩
  ·rw [decide_eq_false q,cond_false] at e
   try rw [if_pos hx] at e
   obtain ⟨b,c⟩:=oE h0 h1 hx (by omega)
   rcases pT rest _ _ (fun y hy=>h y (by simp [hy])) (by omega) (by omega) y e with ⟨m,g1,g2,g3,g4⟩ | g
   ·refine .inl ⟨m,g1,g2,by omega,fun z hz => ?_⟩
    rcases List.mem_cons.1 hz with rfl | hz
    ·exact i7 c
    ·exact g4 z hz
   ·exact .inr g
theorem yE (x:List ByteArray) (n:Int) (hw:Wf.wf x) (h0:0≤n) (h1:n≤1048576) (h:0≤df x n):df x n≤n∧am.sm x:=by
 have e:=p8 x n hw
 generalize df x n=r at *
 unfold gC at e
 obtain ⟨a1,e⟩:=j9 e h
 obtain ⟨b1,c1⟩:=oE (n:=n) (k:=x.length) h0 h1 hw.1 a1
 rw [if_pos hw.1,Option.bind_eq_some_iff] at e
 obtain ⟨y,e1,e2⟩:=e
 rcases pT x 0 _ hw.2 a1 (by omega) y e1 with ⟨m,rfl,g2,g3,g4⟩ | ⟨m,rfl,g⟩
 ·cases e2;exact ⟨by omega,i7 c1,g4⟩
 ·cases e2;omega
noncomputable def kr (x0:GTask) (x1:Int):Option (Int) :=
  cond (decide ((IntKind.wrap .i64 (x1-(x0.f0.size:Int)))<(0:Int)))
   (some ((-1:Int)))
   (cond (decide ((IntKind.wrap .i64 ((IntKind.wrap .i64 (x1-(x0.f0.size:Int)))-(x0.f1.size:Int)))<(0:Int)))
    (some ((-1:Int)))
    (if Wf.wf x0.f4 then cond (decide ((df x0.f4 (IntKind.wrap .i64 ((IntKind.wrap .i64 (x1-(x0.f0.size:Int)))-(x0.f1.size:Int))))<(0:Int)))
     (some ((-1:Int)))
     (some (df x0.f4 (IntKind.wrap .i64 ((IntKind.wrap .i64 (x1-(x0.f0.size:Int)))-(x0.f1.size:Int))))) else none))
theorem FH (x0:GTask) (x1:Int):Ans (kr x0 x1) (fun r=>Does E 33 [.agg (GTask.t .far x0),.one (tI x1)] [(false,[tI r])]):=by
 unfold kr
 apply K0<;>intro h0
 ·exact KX (DP Tryz.f33 [.no,.b true] (AC h0<|AN))
 ·apply K0<;>intro h1
  ·exact KX (DP Tryz.f33 [.no,.b false,.no,.b true] (AC h0<|AC h1<|AN))
  ·refine K2 (fun h2 => ?_)
   apply K0<;>intro h3
   ·exact KX (DP Tryz.f33 [.no,.b false,.no,.b false,.ret [(false,[tI (df x0.f4 (IntKind.wrap .i64 ((IntKind.wrap .i64 (x1-(x0.f0.size:Int)))-(x0.f1.size:Int))))])],.b true] (AC h0<|AC h1<|AD (sI x0.f4 (IntKind.wrap .i64 ((IntKind.wrap .i64 (x1-(x0.f0.size:Int)))-(x0.f1.size:Int))) h2)<|AC h3<|AN))
   ·exact KX (DP Tryz.f33 [.no,.b false,.no,.b false,.ret [(false,[tI (df x0.f4 (IntKind.wrap .i64 ((IntKind.wrap .i64 (x1-(x0.f0.size:Int)))-(x0.f1.size:Int))))])],.b false] (AC h0<|AC h1<|AD (sI x0.f4 (IntKind.wrap .i64 ((IntKind.wrap .i64 (x1-(x0.f0.size:Int)))-(x0.f1.size:Int))) h2)<|AC h3<|AN))
noncomputable def dQ (x:GTask) (n:Int):Int:=(kr x n).getD (-1)
theorem uT (x:GTask) (n:Int) (h:Wf.wf x):kr x n=some (dQ x n):=by
 obtain ⟨w0,w1,w4⟩:=h
 refine Tot.getD ?_ _
 unfold kr
 repeat' (first | exact Tot.some _ | apply Tot.cond | refine Tot.ite (by assumption) ?_)
theorem wM (x0:GTask) (x1:Int) (h:Wf.wf x0):Does E 33 [.agg (GTask.t .far x0),.one (tI x1)] [(false,[tI (dQ x0 x1)])]:=by
 exact FH x0 x1 _ (uT x0 x1 h)
theorem DR (x:GTask) (n:Int) (hw:Wf.wf x) (h0:0≤n) (h1:n≤1048576) (h:0≤dQ x n):dQ x n≤n∧am.sm x:=by
 have e:=uT x n hw
 obtain ⟨w0,w1,w4⟩:=hw
 generalize dQ x n=r at *
 unfold kr at e
 obtain ⟨a1,e⟩:=j9 e h
 obtain ⟨b1,c1⟩:=oE (n:=n) (k:=x.f0.size) h0 (by omega) w0 a1
 generalize IntKind.wrap .i64 (n-(x.f0.size:Int))=m1 at *
 obtain ⟨a2,e⟩:=j9 e h
 obtain ⟨b2,c2⟩:=oE (n:=m1) (k:=x.f1.size) a1 (by omega) w1 a2
 generalize IntKind.wrap .i64 (m1-(x.f1.size:Int))=m2 at *
 try rw [if_pos w4] at e
 obtain ⟨a3,e⟩:=j9 e h
 try rw [if_pos w4] at e
 obtain ⟨b3,c3⟩:=yE x.f4 m2 w4 a2 (by omega) a3
 generalize df x.f4 m2=m3 at *
 cases e
 exact ⟨by omega,⟨i7 c1,i7 c2,c3⟩⟩
inductive uu where
 | ret (v4:Int)
 | x0 (v1:Int)
def it (q0:Kd) (v0:List GTask) (v1 v5:Int):US:=stL 27 [(0,.one (.s .far () 5 (v0.map (GTask.t q0)))),(1,.one (tI v1)),(5,.one (tI v5))]
def mr (q0:Kd) (zv4:Int):US:=stL 27 [(4,.one (tI zv4))]
def mY (q0:Kd) (zv1:Int):US:=stL 27 [(1,.one (tI zv1))]
abbrev pa:US→Exit→US→Prop:=Round E 15 (aw Tryz.f15 0)
def B2 {q0:Kd} (v0:List GTask) (v1 v5:Int):uu→Prop
 | .ret zv4=>Loops E 15 (aw Tryz.f15 0) (it q0 v0 v1 v5) .ret (mr q0 zv4)
 | .x0 zv1=>Loops E 15 (aw Tryz.f15 0) (it q0 v0 v1 v5) (.exit 0) (mY q0 zv1)
noncomputable def eA  : List GTask→Nat→Int→Option uu
 | [],i,v1=>some (.x0 v1)
 | hd::rest,i,v1=>if Wf.wf hd then cond (decide ((dQ hd v1)<(0:Int)))
  (some (.ret (-1:Int)))
  (eA rest (i+1) (dQ hd v1)) else none
theorem B1 {q0:Kd} (v0:List GTask) (rest:List GTask):∀ (i:Nat) (v1:Int),(v0).drop i=rest→v0.length≤9223372036854775807→Ans (eA rest i v1) (B2 (q0:=q0) v0 v1 (i:Int)):=by
 induction rest with
 | nil =>
  intro i v1 hE hl
  have hb:=bo hE
  unfold eA
  exact KX (KZ (show pa (it q0 v0 v1 (i:Int)) (.exit 0) (mY q0 v1) from RP [.val (.int .i64 (v0.length:Int)),.b false] (ALn v0 (GTask.t q0)<|AC hb<|AN)) (by intro h;cases h))
 | cons hd rest ih =>
  intro i v1 hE hl
  have hb:=aY hE
  have hw:=aZ hE hl
  have hE2:=aH hE
  have hg:=bc hE
  unfold eA
  refine K2 (fun h2 => ?_)
  apply K0<;>intro h3
  ·exact KX (KZ (show pa (it q0 v0 v1 (i:Int)) .ret (mr q0 (-1:Int)) from RP [.val (.int .i64 (v0.length:Int)),.b true,.row ((GTask.t q0) hd),.ret [(false,[tI (dQ hd v1)])],.b true] (ALn v0 (GTask.t q0)<|AC hb<|AR (GTask.t q0) hg<|AD (wM hd v1 h2)<|AC h3<|AN)) (by intro h;cases h))
  ·exact (ih (i+1) (dQ hd v1) hE2 hl).mono fun y hy=>by have r:pa (it q0 v0 v1 (i:Int)) .normal (it q0 v0 (dQ hd v1) (inc (i:Int))):=RP [.val (.int .i64 (v0.length:Int)),.b true,.row ((GTask.t q0) hd),.ret [(false,[tI (dQ hd v1)])],.b false] (ALn v0 (GTask.t q0)<|AC hb<|AR (GTask.t q0) hg<|AD (wM hd v1 h2)<|AC h3<|AN);rw [hw] at r;cases y<;>exact KY r hy
noncomputable def jn (x0:List GTask) (x1:Int):Option (Int) :=
  cond (decide ((IntKind.wrap .i64 (x1-(x0.length:Int)))<(0:Int)))
   (some ((-1:Int)))
   (if x0.length≤9223372036854775807 then (eA x0 0 (IntKind.wrap .i64 (x1-(x0.length:Int)))).bind fun y=>match y with
    | .ret w0_4=>(some (w0_4))
    | .x0 w0_1=>(some (w0_1)) else none)
theorem DN {q0:Kd} (x0:List GTask) (x1:Int):Ans (jn x0 x1) (fun r=>Does E 15 [.one (.s .far () 5 (x0.map (GTask.t q0))),.one (tI x1)] [(false,[tI r])]):=by
 unfold jn
 apply K0<;>intro h0
 ·exact KX (DP Tryz.f15 [.val (.int .i64 (x0.length:Int)),.no,.b true] (ALn x0 (GTask.t q0)<|AC h0<|AN))
 ·refine K2 (fun hl2 => ?_)
  refine K1 (fun y hy => ?_)
  replace hy:=B1 (q0:=q0) x0 x0 0 (IntKind.wrap .i64 (x1-(x0.length:Int))) rfl hl2 y hy
  cases y with
  | ret w0_4 =>
   have h1:=hy
   exact KX (DP Tryz.f15 [.val (.int .i64 (x0.length:Int)),.no,.b false,.lp .ret (mr q0 w0_4)] (ALn x0 (GTask.t q0)<|AC h0<|AL h1<|AN))
  | x0 w0_1 =>
   have h1:=hy
   exact KX (DP Tryz.f15 [.val (.int .i64 (x0.length:Int)),.no,.b false,.lp (.exit 0) (mY q0 w0_1)] (ALn x0 (GTask.t q0)<|AC h0<|AL h1<|AN))
noncomputable def dg (x:List GTask) (n:Int):Int:=(jn x n).getD (-1)
theorem uS:∀ (rest:List GTask) (i:Nat) (n:Int),(∀ y∈rest,Wf.wf y)→Tot (eA rest i n)
 | [],i,n,_=>Tot.some _
 | x::rest,i,n,h=>by
  have hx:=h x (by simp)
  have ih:=fun i n=>uS rest i n fun y hy=>h y (by simp [hy])
  unfold eA
  repeat' (first | exact Tot.some _ | exact ih _ _ | apply Tot.cond | refine Tot.ite (by assumption) ?_)
theorem th (x:List GTask) (n:Int) (h:Wf.wf x):jn x n=some (dg x n):=by
 refine Tot.getD ?_ _
 unfold jn
 refine Tot.cond (Tot.some _) ?_
 refine Tot.ite h.1 (Tot.bind (uS x 0 _ h.2) fun y hy => ?_)
 cases y<;>exact Tot.some _
theorem vg {q0:Kd} (x0:List GTask) (x1:Int) (h:Wf.wf x0):Does E 15 [.one (.s .far () 5 (x0.map (GTask.t q0))),.one (tI x1)] [(false,[tI (dg x0 x1)])]:=by
 exact DN x0 x1 _ (th x0 x1 h)
theorem sX:∀ (rest:List GTask) (i:Nat) (n:Int),(∀ y∈rest,Wf.wf y)→0≤n→n≤1048576→∀ y,eA rest i n=some y →
  (∃ m,y = .x0 m∧0≤m∧m≤n∧∀ z∈rest,am.sm z)∨∃ m,y = .ret m∧m<0
 | [],i,n,_,h0,h1,y,e=>by cases e;exact .inl ⟨n,rfl,h0,Int.le_refl _,fun z hz=>by cases hz⟩
 | x::rest,i,n,h,h0,h1,y,e=>by
  have hx:=h x (by simp)
  unfold eA at e
  try rw [if_pos hx] at e
  by_cases q:dQ x n<0
  ·rw [decide_eq_true q,cond_true] at e
   cases e
   exact .inr ⟨_,rfl,by omega⟩
  ·rw [decide_eq_false q,cond_false] at e
   try rw [if_pos hx] at e
   obtain ⟨b,c⟩:=DR x n hx h0 h1 (by omega)
   rcases sX rest _ _ (fun y hy=>h y (by simp [hy])) (by omega) (by omega) y e with ⟨m,g1,g2,g3,g4⟩ | g
   ·refine .inl ⟨m,g1,g2,by omega,fun z hz => ?_⟩
    rcases List.mem_cons.1 hz with rfl | hz
    ·exact c
    ·exact g4 z hz
   ·exact .inr g
theorem B6 (x:List GTask) (n:Int) (hw:Wf.wf x) (h0:0≤n) (h1:n≤1048576) (h:0≤dg x n):dg x n≤n∧am.sm x:=by
 have e:=th x n hw
 generalize dg x n=r at *
 unfold jn at e
 obtain ⟨a1,e⟩:=j9 e h
 obtain ⟨b1,c1⟩:=oE (n:=n) (k:=x.length) h0 h1 hw.1 a1
 rw [if_pos hw.1,Option.bind_eq_some_iff] at e
 obtain ⟨y,e1,e2⟩:=e
 rcases sX x 0 _ hw.2 a1 (by omega) y e1 with ⟨m,rfl,g2,g3,g4⟩ | ⟨m,rfl,g⟩
 ·cases e2;exact ⟨by omega,i7 c1,g4⟩
 ·cases e2;omega
noncomputable def lU (x0:LDag) (x1:Int):Option (Int) :=
  cond (decide ((IntKind.wrap .i64 (x1-(x0.f0.size:Int)))<(0:Int)))
   (some ((-1:Int)))
   (cond (decide ((IntKind.wrap .i64 ((IntKind.wrap .i64 (x1-(x0.f0.size:Int)))-(x0.f1.size:Int)))<(0:Int)))
    (some ((-1:Int)))
    (if Wf.wf x0.f5 then cond (decide ((dg x0.f5 (IntKind.wrap .i64 ((IntKind.wrap .i64 (x1-(x0.f0.size:Int)))-(x0.f1.size:Int))))<(0:Int)))
     (some ((-1:Int)))
     (some (dg x0.f5 (IntKind.wrap .i64 ((IntKind.wrap .i64 (x1-(x0.f0.size:Int)))-(x0.f1.size:Int))))) else none))
theorem GW {q0:Kd} (x0:LDag) (x1:Int):Ans (lU x0 x1) (fun r=>Does E 4 [.agg (LDag.t .far q0 x0),.one (tI x1)] [(false,[tI r])]):=by
 unfold lU
 apply K0<;>intro h0
 ·exact KX (DP Tryz.f4 [.no,.b true] (AC h0<|AN))
 ·apply K0<;>intro h1
  ·exact KX (DP Tryz.f4 [.no,.b false,.no,.b true] (AC h0<|AC h1<|AN))
  ·refine K2 (fun h2 => ?_)
   apply K0<;>intro h3
   ·exact KX (DP Tryz.f4 [.no,.b false,.no,.b false,.ret [(false,[tI (dg x0.f5 (IntKind.wrap .i64 ((IntKind.wrap .i64 (x1-(x0.f0.size:Int)))-(x0.f1.size:Int))))])],.b true] (AC h0<|AC h1<|AV (ψ:=fun k=>E.C k 15 [.one (.s .far () 5 (x0.f5.map (GTask.t q0))),.one (tI (IntKind.wrap .i64 ((IntKind.wrap .i64 (x1-(x0.f0.size:Int)))-(x0.f1.size:Int))))]=some [(false,[tI (dg x0.f5 (IntKind.wrap .i64 ((IntKind.wrap .i64 (x1-(x0.f0.size:Int)))-(x0.f1.size:Int))))])]) (vg x0.f5 (IntKind.wrap .i64 ((IntKind.wrap .i64 (x1-(x0.f0.size:Int)))-(x0.f1.size:Int))) h2)<|AC h3<|AN))
   ·exact KX (DP Tryz.f4 [.no,.b false,.no,.b false,.ret [(false,[tI (dg x0.f5 (IntKind.wrap .i64 ((IntKind.wrap .i64 (x1-(x0.f0.size:Int)))-(x0.f1.size:Int))))])],.b false] (AC h0<|AC h1<|AV (ψ:=fun k=>E.C k 15 [.one (.s .far () 5 (x0.f5.map (GTask.t q0))),.one (tI (IntKind.wrap .i64 ((IntKind.wrap .i64 (x1-(x0.f0.size:Int)))-(x0.f1.size:Int))))]=some [(false,[tI (dg x0.f5 (IntKind.wrap .i64 ((IntKind.wrap .i64 (x1-(x0.f0.size:Int)))-(x0.f1.size:Int))))])]) (vg x0.f5 (IntKind.wrap .i64 ((IntKind.wrap .i64 (x1-(x0.f0.size:Int)))-(x0.f1.size:Int))) h2)<|AC h3<|AN))
noncomputable def aI (x:LDag) (n:Int):Int:=(lU x n).getD (-1)
theorem vS (x:LDag) (n:Int) (h:Wf.wf x):lU x n=some (aI x n):=by
 obtain ⟨w0,w1,w5⟩:=h
 refine Tot.getD ?_ _
 unfold lU
 repeat' (first | exact Tot.some _ | apply Tot.cond | refine Tot.ite (by assumption) ?_)
theorem gK {q0:Kd} (x0:LDag) (x1:Int) (h:Wf.wf x0):Does E 4 [.agg (LDag.t .far q0 x0),.one (tI x1)] [(false,[tI (aI x0 x1)])]:=by
 exact GW x0 x1 _ (vS x0 x1 h)
theorem FK (x:LDag) (n:Int) (hw:Wf.wf x) (h0:0≤n) (h1:n≤1048576) (h:0≤aI x n):aI x n≤n∧am.sm x:=by
 have e:=vS x n hw
 obtain ⟨w0,w1,w5⟩:=hw
 generalize aI x n=r at *
 unfold lU at e
 obtain ⟨a1,e⟩:=j9 e h
 obtain ⟨b1,c1⟩:=oE (n:=n) (k:=x.f0.size) h0 (by omega) w0 a1
 generalize IntKind.wrap .i64 (n-(x.f0.size:Int))=m1 at *
 obtain ⟨a2,e⟩:=j9 e h
 obtain ⟨b2,c2⟩:=oE (n:=m1) (k:=x.f1.size) a1 (by omega) w1 a2
 generalize IntKind.wrap .i64 (m1-(x.f1.size:Int))=m2 at *
 try rw [if_pos w5] at e
 obtain ⟨a3,e⟩:=j9 e h
 try rw [if_pos w5] at e
 obtain ⟨b3,c3⟩:=B6 x.f5 m2 w5 a2 (by omega) a3
 generalize dg x.f5 m2=m3 at *
 cases e
 exact ⟨by omega,⟨i7 c1,i7 c2,c3⟩⟩
inductive ra where
 | x0 (v3:List ByteArray)
def ks (v0 v3:List ByteArray) (v4:Int):US:=stL 22 [(0,.one (.s .far () 1 (v0.map etS))),(3,.one (.s .own () 1 (v3.map etS))),(4,.one (tI v4))]
def lC (zv3:List ByteArray):US:=stL 22 [(3,.one (.s .own () 1 (zv3.map etS)))]
abbrev q9:US→Exit→US→Prop:=Round E 63 (aw Tryz.f63 0)
def yD (v0 v3:List ByteArray) (v4:Int):ra→Prop
 | .x0 zv3=>Loops E 63 (aw Tryz.f63 0) (ks v0 v3 v4) (.exit 0) (lC zv3)
noncomputable def ea  : List ByteArray→Nat→(List ByteArray)→Option ra
 | [],i,v3=>some (.x0 v3)
 | hd::rest,i,v3=>(aA v3 (i:Int)).bind fun g1=>ea rest (i+1) (v3.set (i:Int).toNat hd)
theorem yC (v0:List ByteArray) (rest:List ByteArray):∀ (i:Nat) (v3:List ByteArray),(v0).drop i=rest→v0.length≤9223372036854775807→Ans (ea rest i v3) (yD v0 v3 (i:Int)):=by
 induction rest with
 | nil =>
  intro i v3 hE hl
  have hb:=bo hE
  unfold ea
  exact KX (KZ (show q9 (ks v0 v3 (i:Int)) (.exit 0) (lC v3) from RP [.val (.int .i64 (v0.length:Int)),.b false] (ALn v0 etS<|AC hb<|AN)) (by intro h;cases h))
 | cons hd rest ih =>
  intro i v3 hE hl
  have hb:=aY hE
  have hw:=aZ hE hl
  have hE2:=aH hE
  have hg:=bc hE
  unfold ea
  refine K1 (fun g1 h2 => ?_)
  exact (ih (i+1) (v3.set (i:Int).toNat hd) hE2 hl).mono fun y hy=>by have r:q9 (ks v0 v3 (i:Int)) .normal (ks v0 (v3.set (i:Int).toNat hd) (inc (i:Int))):=RP [.val (.int .i64 (v0.length:Int)),.b true,.row (etS hd),.row (etS g1),.rows ((v3.set (i:Int).toNat hd).map etS)] (ALn v0 etS<|AC hb<|AR etS hg<|AG etS h2<|AC (p:=(v3.map etS).set (0+(i:Int).toNat) (ar (etS g1) 0 [tS hd])=(v3.set (i:Int).toNat hd).map etS) (ed (by rfl))<|AN);rw [hw] at r;cases y<;>exact KY r hy
noncomputable def nU (x0:List ByteArray):Option ((List ByteArray)) :=
  if 0≤(x0.length:Int)∧(x0.length:Int)≤(x0.length:Int)∧((16:Nat):Int)*(x0.length:Int)≤281474976710656∧(x0.length:Int)≤4611686018427387904 then if x0.length≤9223372036854775807 then (ea x0 0 (List.replicate (x0.length:Int).toNat ByteArray.empty)).bind fun y=>match y with
   | .x0 w0_3=>(some (w0_3)) else none else none
theorem Ag (x0:List ByteArray):Ans (nU x0) (fun r=>Does E 63 [.one (.s .far () 1 (x0.map etS))] [(false,[.s .own () 1 (r.map etS)])]):=by
 unfold nU
 refine K2 (fun h0 => ?_)
 refine K2 (fun hl1 => ?_)
 refine K1 (fun y hy => ?_)
 replace hy:=yC x0 x0 0 (List.replicate (x0.length:Int).toNat ByteArray.empty) rfl hl1 y hy
 cases y with
 | x0 w0_3 =>
  have h1:=hy
  exact KX (DP Tryz.f63 [.val (.int .i64 (x0.length:Int)),.rows ((List.replicate (x0.length:Int).toNat ByteArray.empty).map etS),.lp (.exit 0) (lC w0_3)] (ALn x0 etS<|AC h0<|AC (p:=List.replicate (x0.length:Int).toNat [tS ByteArray.empty]=(List.replicate (x0.length:Int).toNat ByteArray.empty).map etS) (pj rfl)<|AL h1<|AN))
def lf (l:List ByteArray):List ByteArray:=l
theorem qG:∀ (rest:List ByteArray) (i:Nat) (v:List ByteArray),(∀ y∈rest,am.sm y)→v.length=i+rest.length→ea rest i v=some (.x0 (v.take i++rest))
 | [],i,v,_,hv=>by unfold ea;rw [List.take_of_length_le (by simp at hv;omega)];simp
 | x::rest,i,v,h,hv=>by
  have hx:=h x (by simp)
  have hi:i<v.length:=by simp at hv;omega
  unfold ea
  rw [es,List.getElem?_eq_getElem hi,Option.bind_some]
  try rw [if_pos hx]
  rw [Int.toNat_natCast,qG rest (i+1) _ (fun y hy=>h y (by simp [hy])) (by simp at hv ⊢;omega),yZ hi]
  simp
theorem zN (x0:List ByteArray) (h:am.sm x0):Does E 63 [.one (.s .far () 1 (x0.map etS))] [(false,[.s .own () 1 ((lf x0).map etS)])]:=by
 exact Ag x0 _ (by
  unfold nU
  rw [if_pos (B8 16 (by decide) h.1 rfl),if_pos (gW h),qG x0 0 _ h.2 (by simp)]
  simp [lf])
noncomputable def r8 (x0:GTask):Option (GTask) :=
  if am.sm x0.f4 then some ((GTask.mk x0.f0 x0.f1 x0.f2 x0.f3 (lf x0.f4))) else none
theorem FJ (x0:GTask):Ans (r8 x0) (fun r=>Does E 42 [.agg (GTask.t .far x0)] [(true,GTask.t .own r)]):=by
 unfold r8
 refine K2 (fun h0 => ?_)
 exact KX (DP Tryz.f42 [.ret [(false,[.s .own () 1 ((lf x0.f4).map etS)])]] (AD (zN x0.f4 h0)<|AN))
def dn (x:GTask):GTask:=x
theorem EV (x0:GTask) (h:am.sm x0):Does E 42 [.agg (GTask.t .far x0)] [(true,GTask.t .own (dn x0))]:=by
 obtain ⟨w0,w1,w4⟩:=h
 exact FJ x0 _ (by
  unfold r8
  repeat rw [if_pos (by assumption)]
  rfl)
inductive uy where
 | x0 (v3:List GTask)
def mt (q0:Kd) (v0 v3:List GTask) (v4:Int):US:=stL 23 [(0,.one (.s .far () 5 (v0.map (GTask.t q0)))),(3,.one (.s .own () 5 (v3.map (GTask.t .own)))),(4,.one (tI v4))]
def mZ (q0:Kd) (zv3:List GTask):US:=stL 23 [(3,.one (.s .own () 5 (zv3.map (GTask.t .own))))]
abbrev ux:US→Exit→US→Prop:=Round E 21 (aw Tryz.f21 0)
def B5 {q0:Kd} (v0 v3:List GTask) (v4:Int):uy→Prop
 | .x0 zv3=>Loops E 21 (aw Tryz.f21 0) (mt q0 v0 v3 v4) (.exit 0) (mZ q0 zv3)
noncomputable def fb  : List GTask→Nat→(List GTask)→Option uy
 | [],i,v3=>some (.x0 v3)
 | hd::rest,i,v3=>if am.sm hd then (aA v3 (i:Int)).bind fun g1=>fb rest (i+1) (v3.set (i:Int).toNat (dn hd)) else none
theorem B4 {q0:Kd} (v0:List GTask) (rest:List GTask):∀ (i:Nat) (v3:List GTask),(v0).drop i=rest→v0.length≤9223372036854775807→Ans (fb rest i v3) (B5 (q0:=q0) v0 v3 (i:Int)):=by
 induction rest with
 | nil =>
  intro i v3 hE hl
  have hb:=bo hE
  unfold fb
  exact KX (KZ (show ux (mt q0 v0 v3 (i:Int)) (.exit 0) (mZ q0 v3) from RP [.val (.int .i64 (v0.length:Int)),.b false] (ALn v0 (GTask.t q0)<|AC hb<|AN)) (by intro h;cases h))
 | cons hd rest ih =>
  intro i v3 hE hl
  have hb:=aY hE
  have hw:=aZ hE hl
  have hE2:=aH hE
  have hg:=bc hE
  unfold fb
  refine K2 (fun h2 => ?_)
  refine K1 (fun g1 h3 => ?_)
  exact (ih (i+1) (v3.set (i:Int).toNat (dn hd)) hE2 hl).mono fun y hy=>by have r:ux (mt q0 v0 v3 (i:Int)) .normal (mt q0 v0 (v3.set (i:Int).toNat (dn hd)) (inc (i:Int))):=RP [.val (.int .i64 (v0.length:Int)),.b true,.row ((GTask.t q0) hd),.ret [(true,GTask.t .own (dn hd))],.row ((GTask.t .own) g1),.rows ((v3.set (i:Int).toNat (dn hd)).map (GTask.t .own))] (ALn v0 (GTask.t q0)<|AC hb<|AR (GTask.t q0) hg<|AD (EV hd h2)<|AG (GTask.t .own) h3<|AC (p:=(v3.map (GTask.t .own)).set (0+(i:Int).toNat) (ar ((GTask.t .own) g1) 0 [tS ((dn hd).f0),tS ((dn hd).f1),tI ((dn hd).f2),tB ((dn hd).f3),.s .own () 1 (((dn hd).f4).map etS)])=(v3.set (i:Int).toNat (dn hd)).map (GTask.t .own)) (ed (by rfl))<|AN);rw [hw] at r;cases y<;>exact KY r hy
noncomputable def qp (x0:List GTask):Option ((List GTask)) :=
  if 0≤(x0.length:Int)∧(x0.length:Int)≤(x0.length:Int)∧((72:Nat):Int)*(x0.length:Int)≤281474976710656∧(x0.length:Int)≤4611686018427387904 then if x0.length≤9223372036854775807 then (fb x0 0 (List.replicate (x0.length:Int).toNat (GTask.mk ByteArray.empty ByteArray.empty (0:Int) false ([]:List ByteArray)))).bind fun y=>match y with
   | .x0 w0_3=>(some (w0_3)) else none else none
theorem DQ {q0:Kd} (x0:List GTask):Ans (qp x0) (fun r=>Does E 21 [.one (.s .far () 5 (x0.map (GTask.t q0)))] [(false,[.s .own () 5 (r.map (GTask.t .own))])]):=by
 unfold qp
 refine K2 (fun h0 => ?_)
 refine K2 (fun hl1 => ?_)
 refine K1 (fun y hy => ?_)
 replace hy:=B4 (q0:=q0) x0 x0 0 (List.replicate (x0.length:Int).toNat (GTask.mk ByteArray.empty ByteArray.empty (0:Int) false ([]:List ByteArray))) rfl hl1 y hy
 cases y with
 | x0 w0_3 =>
  have h1:=hy
  exact KX (DP Tryz.f21 [.val (.int .i64 (x0.length:Int)),.rows ((List.replicate (x0.length:Int).toNat (GTask.mk ByteArray.empty ByteArray.empty (0:Int) false ([]:List ByteArray))).map (GTask.t .own)),.lp (.exit 0) (mZ q0 w0_3)] (ALn x0 (GTask.t q0)<|AC h0<|AC (p:=List.replicate (x0.length:Int).toNat [tS ByteArray.empty,tS ByteArray.empty,tI (0:Int),tB false,.s .own () 1 (([]:List ByteArray).map etS)]=(List.replicate (x0.length:Int).toNat (GTask.mk ByteArray.empty ByteArray.empty (0:Int) false ([]:List ByteArray))).map (GTask.t .own)) (pj rfl)<|AL h1<|AN))
def jp (l:List GTask):List GTask:=l
theorem tJ:∀ (rest:List GTask) (i:Nat) (v:List GTask),(∀ y∈rest,am.sm y)→v.length=i+rest.length→fb rest i v=some (.x0 (v.take i++rest))
 | [],i,v,_,hv=>by unfold fb;rw [List.take_of_length_le (by simp at hv;omega)];simp
 | x::rest,i,v,h,hv=>by
  have hx:=h x (by simp)
  have hi:i<v.length:=by simp at hv;omega
  unfold fb
  rw [es,List.getElem?_eq_getElem hi,Option.bind_some]
  try rw [if_pos hx]
  rw [Int.toNat_natCast,tJ rest (i+1) _ (fun y hy=>h y (by simp [hy])) (by simp at hv ⊢;omega),yZ hi]
  simp [dn]
theorem C8 {q0:Kd} (x0:List GTask) (h:am.sm x0):Does E 21 [.one (.s .far () 5 (x0.map (GTask.t q0)))] [(false,[.s .own () 5 ((jp x0).map (GTask.t .own))])]:=by
 exact DQ x0 _ (by
  unfold qp
  rw [if_pos (B8 72 (by decide) h.1 rfl),if_pos (gW h),tJ x0 0 _ h.2 (by simp)]
  simp [jp])
noncomputable def uv (x0:LDag):Option (GDag) :=
  if am.sm x0.f5 then some ((GDag.mk x0.f0 x0.f1 x0.f2 x0.f3 x0.f4 (jp x0.f5))) else none
theorem GY {q0:Kd} (x0:LDag):Ans (uv x0) (fun r=>Does E 7 [.agg (LDag.t .far q0 x0)] [(true,GDag.t .own .own r)]):=by
 unfold uv
 refine K2 (fun h0 => ?_)
 exact KX (DP Tryz.f7 [.ret [(false,[.s .own () 5 ((jp x0.f5).map (GTask.t .own))])]] (AV (ψ:=fun k=>E.C k 21 [.one (.s .far () 5 (x0.f5.map (GTask.t q0)))]=some [(false,[.s .own () 5 ((jp x0.f5).map (GTask.t .own))])]) (C8 x0.f5 h0)<|AN))
def aa (x:LDag):GDag:=⟨x.f0,x.f1,x.f2,x.f3,x.f4,jp x.f5⟩
theorem F5 {x:LDag} (h:am.sm x):am.sm (aa x):=by
 obtain ⟨w0,w1,w5⟩:=h
 exact ⟨w0,w1,w5⟩
theorem bL {q0:Kd} (x0:LDag) (h:am.sm x0):Does E 7 [.agg (LDag.t .far q0 x0)] [(true,GDag.t .own .own (aa x0))]:=by
 obtain ⟨w0,w1,w5⟩:=h
 exact GY x0 _ (by
  unfold uv
  repeat rw [if_pos (by assumption)]
  rfl)
inductive qW where
 | ret (v4:Bool)
 | x0 
def fZ (v0 v1:List ByteArray) (v5:Int):US:=stL 26 [(0,.one (.s .far () 1 (v0.map etS))),(1,.one (.s .far () 1 (v1.map etS))),(5,.one (tI v5))]
def kM (zv4:Bool):US:=stL 26 [(4,.one (tB zv4))]
def lz  : US:=stL 26 []
abbrev mV:US→Exit→US→Prop:=Round E 73 (aw Tryz.f73 0)
def yu (v0 v1:List ByteArray) (v5:Int):qW→Prop
 | .ret zv4=>Loops E 73 (aw Tryz.f73 0) (fZ v0 v1 v5) .ret (kM zv4)
 | .x0=>Loops E 73 (aw Tryz.f73 0) (fZ v0 v1 v5) (.exit 0) (lz)
noncomputable def eR (v1:List ByteArray):List ByteArray→Nat→Option qW
 | [],i=>some (.x0)
 | hd::rest,i=>(aA v1 (i:Int)).bind fun g1=>cond (!(hd.toList==g1.toList))
  (some (.ret false))
  (eR v1 rest (i+1))
theorem yt (v0 v1:List ByteArray) (rest:List ByteArray):∀ (i:Nat) ,(v0).drop i=rest→v0.length≤9223372036854775807→Ans (eR v1 rest i) (yu v0 v1 (i:Int)):=by
 induction rest with
 | nil =>
  intro i hE hl
  have hb:=bo hE
  unfold eR
  exact KX (KZ (show mV (fZ v0 v1 (i:Int)) (.exit 0) (lz) from RP [.val (.int .i64 (v0.length:Int)),.b false] (ALn v0 etS<|AC hb<|AN)) (by intro h;cases h))
 | cons hd rest ih =>
  intro i hE hl
  have hb:=aY hE
  have hw:=aZ hE hl
  have hE2:=aH hE
  have hg:=bc hE
  unfold eR
  refine K1 (fun g1 h2 => ?_)
  apply K0<;>intro h3
  ·exact KX (KZ (show mV (fZ v0 v1 (i:Int)) .ret (kM false) from RP [.val (.int .i64 (v0.length:Int)),.b true,.row (etS hd),.row (etS g1),.b true] (ALn v0 etS<|AC hb<|AR etS hg<|AR etS h2<|AC h3<|AN)) (by intro h;cases h))
  ·exact (ih (i+1) hE2 hl).mono fun y hy=>by have r:mV (fZ v0 v1 (i:Int)) .normal (fZ v0 v1 (inc (i:Int))):=RP [.val (.int .i64 (v0.length:Int)),.b true,.row (etS hd),.row (etS g1),.b false] (ALn v0 etS<|AC hb<|AR etS hg<|AR etS h2<|AC h3<|AN);rw [hw] at r;cases y<;>exact KY r hy
noncomputable def nT (x0 x1:List ByteArray):Option (Bool) :=
  cond ((x0.length:Int) != (x1.length:Int))
   (some (false))
   (if x0.length≤9223372036854775807 then (eR x1 x0 0).bind fun y=>match y with
    | .ret w0_4=>(some (w0_4))
    | .x0=>(some (true)) else none)
theorem z8 (x0 x1:List ByteArray):Ans (nT x0 x1) (fun r=>Does E 73 [.one (.s .far () 1 (x0.map etS)),.one (.s .far () 1 (x1.map etS))] [(false,[tB r])]):=by
 unfold nT
 apply K0<;>intro h0
 ·exact KX (DP Tryz.f73 [.val (.int .i64 (x0.length:Int)),.val (.int .i64 (x1.length:Int)),.b true] (ALn x0 etS<|ALn x1 etS<|AC h0<|AN))
 ·refine K2 (fun hl2 => ?_)
  refine K1 (fun y hy => ?_)
  replace hy:=yt x0 x1 x0 0 rfl hl2 y hy
  cases y with
  | ret w0_4 =>
   have h1:=hy
   exact KX (DP Tryz.f73 [.val (.int .i64 (x0.length:Int)),.val (.int .i64 (x1.length:Int)),.b false,.lp .ret (kM w0_4)] (ALn x0 etS<|ALn x1 etS<|AC h0<|AL h1<|AN))
  | x0 =>
   have h1:=hy
   exact KX (DP Tryz.f73 [.val (.int .i64 (x0.length:Int)),.val (.int .i64 (x1.length:Int)),.b false,.lp (.exit 0) (lz)] (ALn x0 etS<|ALn x1 etS<|AC h0<|AL h1<|AN))
theorem qJ (l:List ByteArray):∀ (rest:List ByteArray) (i:Nat),l.drop i=rest→(∀ y∈rest,am.sm y)→eR l rest i=some .x0
 | [],i,_,_=>rfl
 | x::rest,i,hE,h=>by
  have hx:=h x (by simp)
  unfold eR
  rw [bc hE,Option.bind_some]
  simp only [hx,if_true,yes,bne_self_eq_false,BEq.rfl,Bool.not_true,cond_false,cond_true]
  exact qJ l rest (i+1) (aH hE) (fun y hy=>h y (by simp [hy]))
theorem sH (x0:List ByteArray) (x1:List ByteArray) (e:x0=x1) (h:am.sm x0):Does E 73 [.one (.s .far () 1 (x0.map etS)),.one (.s .far () 1 (x1.map etS))] [(false,[tB (yes x0 x1)])]:=by
 subst e
 exact z8 x0 x0 _ (by
  unfold nT
  rw [if_pos (gW h),qJ x0 x0 0 rfl h.2]
  simp [yes])
noncomputable def r6 (x0 x1:GTask):Option (Bool) :=
  cond (!(x0.f0.toList==x1.f0.toList))
   (some (false))
   (cond (!(x0.f1.toList==x1.f1.toList))
    (some (false))
    (cond (x0.f2 != x1.f2)
     (some (false))
     (cond (!(x0.f3==x1.f3))
      (some (false))
      (if x0.f4=x1.f4 then if am.sm x0.f4 then cond (yes x0.f4 x1.f4)
       (some (true))
       (some (false)) else none else none))))
theorem FG (x0 x1:GTask):Ans (r6 x0 x1) (fun r=>Does E 54 [.agg (GTask.t .far x0),.agg (GTask.t .far x1)] [(false,[tB r])]):=by
 unfold r6
 apply K0<;>intro h0
 ·exact KX (DP Tryz.f54 [.b true] (AC h0<|AN))
 ·apply K0<;>intro h1
  ·exact KX (DP Tryz.f54 [.b false,.b true] (AC h0<|AC h1<|AN))
  ·apply K0<;>intro h2
   ·exact KX (DP Tryz.f54 [.b false,.b false,.b true] (AC h0<|AC h1<|AC h2<|AN))
   ·apply K0<;>intro h3
    ·exact KX (DP Tryz.f54 [.b false,.b false,.b false,.b true] (AC h0<|AC h1<|AC h2<|AC h3<|AN))
    ·refine K2 (fun h4 => ?_)
     refine K2 (fun h5 => ?_)
     apply K0<;>intro h6
     ·exact KX (DP Tryz.f54 [.b false,.b false,.b false,.b false,rT] (AC h0<|AC h1<|AC h2<|AC h3<|AD (K5 (sH x0.f4 x1.f4 h4 h5) h6)<|AN))
     ·exact KX (DP Tryz.f54 [.b false,.b false,.b false,.b false,rF] (AC h0<|AC h1<|AC h2<|AC h3<|AD (K5 (sH x0.f4 x1.f4 h4 h5) h6)<|AN))
theorem wK (x0:GTask) (x1:GTask) (e:x0=x1) (h:am.sm x0):Does E 54 [.agg (GTask.t .far x0),.agg (GTask.t .far x1)] [(false,[tB (yes x0 x1)])]:=by
 subst e
 obtain ⟨w0,w1,w4⟩:=h
 exact FG x0 x0 _ (by
  unfold r6
  simp only [w4,if_true,yes,bne_self_eq_false,BEq.rfl,Bool.not_true,cond_false,cond_true])
inductive ut where
 | ret (v4:Bool)
 | x0 
def iq (q0:Kd) (q1:Kd) (v0 v1:List GTask) (v5:Int):US:=stL 27 [(0,.one (.s .far () 5 (v0.map (GTask.t q0)))),(1,.one (.s .far () 5 (v1.map (GTask.t q1)))),(5,.one (tI v5))]
def mp (q0:Kd) (q1:Kd) (zv4:Bool):US:=stL 27 [(4,.one (tB zv4))]
def mW (q0:Kd) (q1:Kd)  : US:=stL 27 []
abbrev o7:US→Exit→US→Prop:=Round E 29 (aw Tryz.f29 0)
def BX {q0:Kd} {q1:Kd} (v0 v1:List GTask) (v5:Int):ut→Prop
 | .ret zv4=>Loops E 29 (aw Tryz.f29 0) (iq q0 q1 v0 v1 v5) .ret (mp q0 q1 zv4)
 | .x0=>Loops E 29 (aw Tryz.f29 0) (iq q0 q1 v0 v1 v5) (.exit 0) (mW q0 q1)
noncomputable def gn (v1:List GTask):List GTask→Nat→Option ut
 | [],i=>some (.x0)
 | hd::rest,i=>(aA v1 (i:Int)).bind fun g1=>if hd=g1 then if am.sm hd then cond (yes hd g1)
  (gn v1 rest (i+1))
  (some (.ret false)) else none else none
theorem BW {q0:Kd} {q1:Kd} (v0 v1:List GTask) (rest:List GTask):∀ (i:Nat) ,(v0).drop i=rest→v0.length≤9223372036854775807→Ans (gn v1 rest i) (BX (q0:=q0) (q1:=q1) v0 v1 (i:Int)):=by
 induction rest with
 | nil =>
  intro i hE hl
  have hb:=bo hE
  unfold gn
  exact KX (KZ (show o7 (iq q0 q1 v0 v1 (i:Int)) (.exit 0) (mW q0 q1) from RP [.val (.int .i64 (v0.length:Int)),.b false] (ALn v0 (GTask.t q0)<|AC hb<|AN)) (by intro h;cases h))
 | cons hd rest ih =>
  intro i hE hl
  have hb:=aY hE
  have hw:=aZ hE hl
  have hE2:=aH hE
  have hg:=bc hE
  unfold gn
  refine K1 (fun g1 h2 => ?_)
  refine K2 (fun h3 => ?_)
  refine K2 (fun h4 => ?_)
  apply K0<;>intro h5
  ·exact (ih (i+1) hE2 hl).mono fun y hy=>by have r:o7 (iq q0 q1 v0 v1 (i:Int)) .normal (iq q0 q1 v0 v1 (inc (i:Int))):=RP [.val (.int .i64 (v0.length:Int)),.b true,.row ((GTask.t q0) hd),.row ((GTask.t q1) g1),rT] (ALn v0 (GTask.t q0)<|AC hb<|AR (GTask.t q0) hg<|AR (GTask.t q1) h2<|AD (K5 (wK hd g1 h3 h4) h5)<|AN);rw [hw] at r;cases y<;>exact KY r hy
  ·exact KX (KZ (show o7 (iq q0 q1 v0 v1 (i:Int)) .ret (mp q0 q1 false) from RP [.val (.int .i64 (v0.length:Int)),.b true,.row ((GTask.t q0) hd),.row ((GTask.t q1) g1),rF] (ALn v0 (GTask.t q0)<|AC hb<|AR (GTask.t q0) hg<|AR (GTask.t q1) h2<|AD (K5 (wK hd g1 h3 h4) h5)<|AN)) (by intro h;cases h))
noncomputable def qn (x0 x1:List GTask):Option (Bool) :=
  cond ((x0.length:Int) != (x1.length:Int))
   (some (false))
   (if x0.length≤9223372036854775807 then (gn x1 x0 0).bind fun y=>match y with
    | .ret w0_4=>(some (w0_4))
    | .x0=>(some (true)) else none)
theorem DJ {q0:Kd} {q1:Kd} (x0 x1:List GTask):Ans (qn x0 x1) (fun r=>Does E 29 [.one (.s .far () 5 (x0.map (GTask.t q0))),.one (.s .far () 5 (x1.map (GTask.t q1)))] [(false,[tB r])]):=by
 unfold qn
 apply K0<;>intro h0
 ·exact KX (DP Tryz.f29 [.val (.int .i64 (x0.length:Int)),.val (.int .i64 (x1.length:Int)),.b true] (ALn x0 (GTask.t q0)<|ALn x1 (GTask.t q1)<|AC h0<|AN))
 ·refine K2 (fun hl2 => ?_)
  refine K1 (fun y hy => ?_)
  replace hy:=BW (q0:=q0) (q1:=q1) x0 x1 x0 0 rfl hl2 y hy
  cases y with
  | ret w0_4 =>
   have h1:=hy
   exact KX (DP Tryz.f29 [.val (.int .i64 (x0.length:Int)),.val (.int .i64 (x1.length:Int)),.b false,.lp .ret (mp q0 q1 w0_4)] (ALn x0 (GTask.t q0)<|ALn x1 (GTask.t q1)<|AC h0<|AL h1<|AN))
  | x0 =>
   have h1:=hy
   exact KX (DP Tryz.f29 [.val (.int .i64 (x0.length:Int)),.val (.int .i64 (x1.length:Int)),.b false,.lp (.exit 0) (mW q0 q1)] (ALn x0 (GTask.t q0)<|ALn x1 (GTask.t q1)<|AC h0<|AL h1<|AN))
theorem tM (l:List GTask):∀ (rest:List GTask) (i:Nat),l.drop i=rest→(∀ y∈rest,am.sm y)→gn l rest i=some .x0
 | [],i,_,_=>rfl
 | x::rest,i,hE,h=>by
  have hx:=h x (by simp)
  unfold gn
  rw [bc hE,Option.bind_some]
  simp only [hx,if_true,yes,bne_self_eq_false,BEq.rfl,Bool.not_true,cond_false,cond_true]
  exact tM l rest (i+1) (aH hE) (fun y hy=>h y (by simp [hy]))
theorem vf {q0:Kd} {q1:Kd} (x0:List GTask) (x1:List GTask) (e:x0=x1) (h:am.sm x0):Does E 29 [.one (.s .far () 5 (x0.map (GTask.t q0))),.one (.s .far () 5 (x1.map (GTask.t q1)))] [(false,[tB (yes x0 x1)])]:=by
 subst e
 exact DJ x0 x0 _ (by
  unfold qn
  rw [if_pos (gW h),tM x0 x0 0 rfl h.2]
  simp [yes])
noncomputable def uq (x0 x1:GDag):Option (Bool) :=
  cond (!(x0.f0.toList==x1.f0.toList))
   (some (false))
   (cond (!(x0.f1.toList==x1.f1.toList))
    (some (false))
    (cond (x0.f2 != x1.f2)
     (some (false))
     (cond (x0.f3 != x1.f3)
      (some (false))
      (cond (!(x0.f4==x1.f4))
       (some (false))
       (if x0.f5=x1.f5 then if am.sm x0.f5 then cond (yes x0.f5 x1.f5)
        (some (true))
        (some (false)) else none else none)))))
theorem GU {q0:Kd} {q1:Kd} (x0 x1:GDag):Ans (uq x0 x1) (fun r=>Does E 11 [.agg (GDag.t .far q0 x0),.agg (GDag.t .far q1 x1)] [(false,[tB r])]):=by
 unfold uq
 apply K0<;>intro h0
 ·exact KX (DP Tryz.f11 [.b true] (AC h0<|AN))
 ·apply K0<;>intro h1
  ·exact KX (DP Tryz.f11 [.b false,.b true] (AC h0<|AC h1<|AN))
  ·apply K0<;>intro h2
   ·exact KX (DP Tryz.f11 [.b false,.b false,.b true] (AC h0<|AC h1<|AC h2<|AN))
   ·apply K0<;>intro h3
    ·exact KX (DP Tryz.f11 [.b false,.b false,.b false,.b true] (AC h0<|AC h1<|AC h2<|AC h3<|AN))
    ·apply K0<;>intro h4
     ·exact KX (DP Tryz.f11 [.b false,.b false,.b false,.b false,.b true] (AC h0<|AC h1<|AC h2<|AC h3<|AC h4<|AN))
     ·refine K2 (fun h5 => ?_)
      refine K2 (fun h6 => ?_)
      apply K0<;>intro h7
      ·exact KX (DP Tryz.f11 [.b false,.b false,.b false,.b false,.b false,rT] (AC h0<|AC h1<|AC h2<|AC h3<|AC h4<|AV (ψ:=fun k=>E.C k 29 [.one (.s .far () 5 (x0.f5.map (GTask.t q0))),.one (.s .far () 5 (x1.f5.map (GTask.t q1)))]=some [(false,[tB true])]) (K3 (vf x0.f5 x1.f5 h5 h6) (by rw [h7]))<|AN))
      ·exact KX (DP Tryz.f11 [.b false,.b false,.b false,.b false,.b false,rF] (AC h0<|AC h1<|AC h2<|AC h3<|AC h4<|AV (ψ:=fun k=>E.C k 29 [.one (.s .far () 5 (x0.f5.map (GTask.t q0))),.one (.s .far () 5 (x1.f5.map (GTask.t q1)))]=some [(false,[tB false])]) (K3 (vf x0.f5 x1.f5 h5 h6) (by rw [h7]))<|AN))
theorem lI {q0:Kd} {q1:Kd} (x0:GDag) (x1:GDag) (e:x0=x1) (h:am.sm x0):Does E 11 [.agg (GDag.t .far q0 x0),.agg (GDag.t .far q1 x1)] [(false,[tB (yes x0 x1)])]:=by
 subst e
 obtain ⟨w0,w1,w5⟩:=h
 exact GU x0 x0 _ (by
  unfold uq
  simp only [w5,if_true,yes,bne_self_eq_false,BEq.rfl,Bool.not_true,cond_false,cond_true])
end Go.Proofs.YtdcbjglpdbcjpaaGreatDoor.Am
namespace Go.Proofs.YtdcbjglpdbcjpaaGreatDoor.Am
open Go Go.Proofs Classical
set_option maxRecDepth 100000
set_option linter.unusedVariables false
set_option linter.unusedSimpArgs false
noncomputable def ir (x0:List GState) (x1:Int):Option (Int) :=
  cond (decide ((IntKind.wrap .i64 (x1-(x0.length:Int)))<(0:Int)))
   (some ((-1:Int)))
   (some (IntKind.wrap .i64 (x1-(x0.length:Int))))
theorem BZ (x0:List GState) (x1:Int):Ans (ir x0 x1) (fun r=>Does E 16 [.one (.s .far () 4 (x0.map GState.t)),.one (tI x1)] [(false,[tI r])]):=by
 unfold ir
 apply K0<;>intro h0
 ·exact KX (DP Tryz.f16 [.val (.int .i64 (x0.length:Int)),.no,.b true] (ALn x0 GState.t<|AC h0<|AN))
 ·exact KX (DP Tryz.f16 [.val (.int .i64 (x0.length:Int)),.no,.b false] (ALn x0 GState.t<|AC h0<|AN))
noncomputable def dN (x:List GState) (n:Int):Int:=(ir x n).getD (-1)
theorem rq (x:List GState) (n:Int) (h:Wf.wf x):ir x n=some (dN x n):=by
 refine Tot.getD ?_ _
 unfold ir
 refine Tot.cond (Tot.some _) ?_
 exact Tot.some _
theorem tz (x0:List GState) (x1:Int) (h:Wf.wf x0):Does E 16 [.one (.s .far () 4 (x0.map GState.t)),.one (tI x1)] [(false,[tI (dN x0 x1)])]:=by
 exact BZ x0 x1 _ (rq x0 x1 h)
theorem Ah (x:List GState) (n:Int) (hw:Wf.wf x) (h0:0≤n) (h1:n≤1048576) (h:0≤dN x n):dN x n≤n∧am.sm x:=by
 have e:=rq x n hw
 generalize dN x n=r at *
 unfold ir at e
 obtain ⟨a1,e⟩:=j9 e h
 obtain ⟨b1,c1⟩:=oE (n:=n) (k:=x.length) h0 h1 hw.1 a1
 cases e
 exact ⟨b1,i7 c1,fun y _=>trivial⟩
noncomputable def lV (x0:LRun) (x1:Int):Option (Int) :=
  cond (decide ((IntKind.wrap .i64 (x1-(x0.f0.size:Int)))<(0:Int)))
   (some ((-1:Int)))
   (if Wf.wf x0.f3 then cond (decide ((dN x0.f3 (IntKind.wrap .i64 (x1-(x0.f0.size:Int))))<(0:Int)))
    (some ((-1:Int)))
    (some (dN x0.f3 (IntKind.wrap .i64 (x1-(x0.f0.size:Int))))) else none)
theorem GX (x0:LRun) (x1:Int):Ans (lV x0 x1) (fun r=>Does E 5 [.agg (LRun.t .far x0),.one (tI x1)] [(false,[tI r])]):=by
 unfold lV
 apply K0<;>intro h0
 ·exact KX (DP Tryz.f5 [.no,.b true] (AC h0<|AN))
 ·refine K2 (fun h1 => ?_)
  apply K0<;>intro h2
  ·exact KX (DP Tryz.f5 [.no,.b false,.ret [(false,[tI (dN x0.f3 (IntKind.wrap .i64 (x1-(x0.f0.size:Int))))])],.b true] (AC h0<|AD (tz x0.f3 (IntKind.wrap .i64 (x1-(x0.f0.size:Int))) h1)<|AC h2<|AN))
  ·exact KX (DP Tryz.f5 [.no,.b false,.ret [(false,[tI (dN x0.f3 (IntKind.wrap .i64 (x1-(x0.f0.size:Int))))])],.b false] (AC h0<|AD (tz x0.f3 (IntKind.wrap .i64 (x1-(x0.f0.size:Int))) h1)<|AC h2<|AN))
noncomputable def dD (x:LRun) (n:Int):Int:=(lV x n).getD (-1)
theorem vT (x:LRun) (n:Int) (h:Wf.wf x):lV x n=some (dD x n):=by
 obtain ⟨w0,w1,w3⟩:=h
 refine Tot.getD ?_ _
 unfold lV
 repeat' (first | exact Tot.some _ | apply Tot.cond | refine Tot.ite (by assumption) ?_)
theorem iG (x0:LRun) (x1:Int) (h:Wf.wf x0):Does E 5 [.agg (LRun.t .far x0),.one (tI x1)] [(false,[tI (dD x0 x1)])]:=by
 exact GX x0 x1 _ (vT x0 x1 h)
theorem FL (x:LRun) (n:Int) (hw:Wf.wf x) (h0:0≤n) (h1:n≤1048576) (h:0≤dD x n):dD x n≤n∧am.sm x:=by
 have e:=vT x n hw
 obtain ⟨w0,w1,w3⟩:=hw
 generalize dD x n=r at *
 unfold lV at e
 obtain ⟨a1,e⟩:=j9 e h
 obtain ⟨b1,c1⟩:=oE (n:=n) (k:=x.f0.size) h0 (by omega) w0 a1
 generalize IntKind.wrap .i64 (n-(x.f0.size:Int))=m1 at *
 try rw [if_pos w3] at e
 obtain ⟨a2,e⟩:=j9 e h
 try rw [if_pos w3] at e
 obtain ⟨b2,c2⟩:=Ah x.f3 m1 w3 a1 (by omega) a2
 generalize dN x.f3 m1=m2 at *
 cases e
 exact ⟨by omega,⟨i7 c1,trivial,c2⟩⟩
noncomputable def r7 (x0:GSpan):Option (GSpan) :=
  some (x0)
theorem FI (x0:GSpan):Ans (r7 x0) (fun r=>Does E 22 [.agg (GSpan.t x0)] [(true,GSpan.t r)]):=by
 unfold r7
 exact KX (DP Tryz.f22 [] AN)
def oz (x:GSpan):GSpan:=x
theorem EU (x0:GSpan) (h:am.sm x0):Does E 22 [.agg (GSpan.t x0)] [(true,GSpan.t (oz x0))]:=by
 skip
 exact FI x0 _ (by
  unfold r7
  repeat rw [if_pos (by assumption)]
  rfl)
noncomputable def qo (x0:GState):Option (GState) :=
  some (x0)
theorem DO (x0:GState):Ans (qo x0) (fun r=>Does E 43 [.agg (GState.t x0)] [(true,GState.t r)]):=by
 unfold qo
 exact KX (DP Tryz.f43 [] AN)
def dh (x:GState):GState:=x
theorem C7 (x0:GState) (h:am.sm x0):Does E 43 [.agg (GState.t x0)] [(true,GState.t (dh x0))]:=by
 skip
 exact DO x0 _ (by
  unfold qo
  repeat rw [if_pos (by assumption)]
  rfl)
inductive sW where
 | x0 (v3:List GState)
def lb (v0 v3:List GState) (v4:Int):US:=stL 23 [(0,.one (.s .far () 4 (v0.map GState.t))),(3,.one (.s .own () 4 (v3.map GState.t))),(4,.one (tI v4))]
def ms (zv3:List GState):US:=stL 23 [(3,.one (.s .own () 4 (zv3.map GState.t)))]
abbrev sV:US→Exit→US→Prop:=Round E 23 (aw Tryz.f23 0)
def Af (v0 v3:List GState) (v4:Int):sW→Prop
 | .x0 zv3=>Loops E 23 (aw Tryz.f23 0) (lb v0 v3 v4) (.exit 0) (ms zv3)
noncomputable def eL  : List GState→Nat→(List GState)→Option sW
 | [],i,v3=>some (.x0 v3)
 | hd::rest,i,v3=>if am.sm hd then (aA v3 (i:Int)).bind fun g1=>eL rest (i+1) (v3.set (i:Int).toNat (dh hd)) else none
theorem Ae (v0:List GState) (rest:List GState):∀ (i:Nat) (v3:List GState),(v0).drop i=rest→v0.length≤9223372036854775807→Ans (eL rest i v3) (Af v0 v3 (i:Int)):=by
 induction rest with
 | nil =>
  intro i v3 hE hl
  have hb:=bo hE
  unfold eL
  exact KX (KZ (show sV (lb v0 v3 (i:Int)) (.exit 0) (ms v3) from RP [.val (.int .i64 (v0.length:Int)),.b false] (ALn v0 GState.t<|AC hb<|AN)) (by intro h;cases h))
 | cons hd rest ih =>
  intro i v3 hE hl
  have hb:=aY hE
  have hw:=aZ hE hl
  have hE2:=aH hE
  have hg:=bc hE
  unfold eL
  refine K2 (fun h2 => ?_)
  refine K1 (fun g1 h3 => ?_)
  exact (ih (i+1) (v3.set (i:Int).toNat (dh hd)) hE2 hl).mono fun y hy=>by have r:sV (lb v0 v3 (i:Int)) .normal (lb v0 (v3.set (i:Int).toNat (dh hd)) (inc (i:Int))):=RP [.val (.int .i64 (v0.length:Int)),.b true,.row (GState.t hd),.ret [(true,GState.t (dh hd))],.row (GState.t g1),.rows ((v3.set (i:Int).toNat (dh hd)).map GState.t)] (ALn v0 GState.t<|AC hb<|AR GState.t hg<|AD (C7 hd h2)<|AG GState.t h3<|AC (p:=(v3.map GState.t).set (0+(i:Int).toNat) (ar (GState.t g1) 0 [tI ((dh hd).f0),tI ((dh hd).f1),tI ((dh hd).f2),tI ((dh hd).f3)])=(v3.set (i:Int).toNat (dh hd)).map GState.t) (ed (by rfl))<|AN);rw [hw] at r;cases y<;>exact KY r hy
noncomputable def pc (x0:List GState):Option ((List GState)) :=
  if 0≤(x0.length:Int)∧(x0.length:Int)≤(x0.length:Int)∧((32:Nat):Int)*(x0.length:Int)≤281474976710656∧(x0.length:Int)≤4611686018427387904 then if x0.length≤9223372036854775807 then (eL x0 0 (List.replicate (x0.length:Int).toNat (GState.mk (0:Int) (0:Int) (0:Int) (0:Int)))).bind fun y=>match y with
   | .x0 w0_3=>(some (w0_3)) else none else none
theorem B3 (x0:List GState):Ans (pc x0) (fun r=>Does E 23 [.one (.s .far () 4 (x0.map GState.t))] [(false,[.s .own () 4 (r.map GState.t)])]):=by
 unfold pc
 refine K2 (fun h0 => ?_)
 refine K2 (fun hl1 => ?_)
 refine K1 (fun y hy => ?_)
 replace hy:=Ae x0 x0 0 (List.replicate (x0.length:Int).toNat (GState.mk (0:Int) (0:Int) (0:Int) (0:Int))) rfl hl1 y hy
 cases y with
 | x0 w0_3 =>
  have h1:=hy
  exact KX (DP Tryz.f23 [.val (.int .i64 (x0.length:Int)),.rows ((List.replicate (x0.length:Int).toNat (GState.mk (0:Int) (0:Int) (0:Int) (0:Int))).map GState.t),.lp (.exit 0) (ms w0_3)] (ALn x0 GState.t<|AC h0<|AC (p:=List.replicate (x0.length:Int).toNat [tI (0:Int),tI (0:Int),tI (0:Int),tI (0:Int)]=(List.replicate (x0.length:Int).toNat (GState.mk (0:Int) (0:Int) (0:Int) (0:Int))).map GState.t) (pj rfl)<|AL h1<|AN))
def jW (l:List GState):List GState:=l
theorem sK:∀ (rest:List GState) (i:Nat) (v:List GState),(∀ y∈rest,am.sm y)→v.length=i+rest.length→eL rest i v=some (.x0 (v.take i++rest))
 | [],i,v,_,hv=>by unfold eL;rw [List.take_of_length_le (by simp at hv;omega)];simp
 | x::rest,i,v,h,hv=>by
  have hx:=h x (by simp)
  have hi:i<v.length:=by simp at hv;omega
  unfold eL
  rw [es,List.getElem?_eq_getElem hi,Option.bind_some]
  try rw [if_pos hx]
  rw [Int.toNat_natCast,sK rest (i+1) _ (fun y hy=>h y (by simp [hy])) (by simp at hv ⊢;omega),yZ hi]
  simp [dh]
theorem A3 (x0:List GState) (h:am.sm x0):Does E 23 [.one (.s .far () 4 (x0.map GState.t))] [(false,[.s .own () 4 ((jW x0).map GState.t)])]:=by
 exact B3 x0 _ (by
  unfold pc
  rw [if_pos (B8 32 (by decide) h.1 rfl),if_pos (gW h),sK x0 0 _ h.2 (by simp)]
  simp [jW])
noncomputable def uw (x0:LRun):Option (GRun) :=
  if am.sm x0.f1 then if am.sm x0.f3 then some ((GRun.mk x0.f0 (oz x0.f1) x0.f2 (jW x0.f3))) else none else none
theorem G3 (x0:LRun):Ans (uw x0) (fun r=>Does E 8 [.agg (LRun.t .far x0)] [(true,GRun.t .own r)]):=by
 unfold uw
 refine K2 (fun h0 => ?_)
 refine K2 (fun h1 => ?_)
 exact KX (DP Tryz.f8 [.ret [(true,GSpan.t (oz x0.f1))],.ret [(false,[.s .own () 4 ((jW x0.f3).map GState.t)])]] (AD (EU x0.f1 h0)<|AD (A3 x0.f3 h1)<|AN))
def ab (x:LRun):GRun:=⟨x.f0,oz x.f1,x.f2,jW x.f3⟩
theorem F6 {x:LRun} (h:am.sm x):am.sm (ab x):=by
 obtain ⟨w0,w1,w3⟩:=h
 exact ⟨w0,w1,w3⟩
theorem bR (x0:LRun) (h:am.sm x0):Does E 8 [.agg (LRun.t .far x0)] [(true,GRun.t .own (ab x0))]:=by
 obtain ⟨w0,w1,w3⟩:=h
 exact G3 x0 _ (by
  unfold uw
  repeat rw [if_pos (by assumption)]
  rfl)
noncomputable def rZ (x0 x1:GSpan):Option (Bool) :=
  cond (x0.f0 != x1.f0)
   (some (false))
   (cond (x0.f1 != x1.f1)
    (some (false))
    (some (true)))
theorem FF (x0 x1:GSpan):Ans (rZ x0 x1) (fun r=>Does E 27 [.agg (GSpan.t x0),.agg (GSpan.t x1)] [(false,[tB r])]):=by
 unfold rZ
 apply K0<;>intro h0
 ·exact KX (DP Tryz.f27 [.b true] (AC h0<|AN))
 ·apply K0<;>intro h1
  ·exact KX (DP Tryz.f27 [.b false,.b true] (AC h0<|AC h1<|AN))
  ·exact KX (DP Tryz.f27 [.b false,.b false] (AC h0<|AC h1<|AN))
theorem oj (x0:GSpan) (x1:GSpan) (e:x0=x1) (h:am.sm x0):Does E 27 [.agg (GSpan.t x0),.agg (GSpan.t x1)] [(false,[tB (yes x0 x1)])]:=by
 subst e
 skip
 exact FF x0 x0 _ (by
  unfold rZ
  simp only [if_true,yes,bne_self_eq_false,BEq.rfl,Bool.not_true,cond_false,cond_true])
noncomputable def qm (x0 x1:GState):Option (Bool) :=
  cond (x0.f0 != x1.f0)
   (some (false))
   (cond (x0.f1 != x1.f1)
    (some (false))
    (cond (x0.f2 != x1.f2)
     (some (false))
     (cond (x0.f3 != x1.f3)
      (some (false))
      (some (true)))))
theorem DI (x0 x1:GState):Ans (qm x0 x1) (fun r=>Does E 53 [.agg (GState.t x0),.agg (GState.t x1)] [(false,[tB r])]):=by
 unfold qm
 apply K0<;>intro h0
 ·exact KX (DP Tryz.f53 [.b true] (AC h0<|AN))
 ·apply K0<;>intro h1
  ·exact KX (DP Tryz.f53 [.b false,.b true] (AC h0<|AC h1<|AN))
  ·apply K0<;>intro h2
   ·exact KX (DP Tryz.f53 [.b false,.b false,.b true] (AC h0<|AC h1<|AC h2<|AN))
   ·apply K0<;>intro h3
    ·exact KX (DP Tryz.f53 [.b false,.b false,.b false,.b true] (AC h0<|AC h1<|AC h2<|AC h3<|AN))
    ·exact KX (DP Tryz.f53 [.b false,.b false,.b false,.b false] (AC h0<|AC h1<|AC h2<|AC h3<|AN))
theorem ve (x0:GState) (x1:GState) (e:x0=x1) (h:am.sm x0):Does E 53 [.agg (GState.t x0),.agg (GState.t x1)] [(false,[tB (yes x0 x1)])]:=by
 subst e
 skip
 exact DI x0 x0 _ (by
  unfold qm
  simp only [if_true,yes,bne_self_eq_false,BEq.rfl,Bool.not_true,cond_false,cond_true])
inductive sS where
 | ret (v4:Bool)
 | x0 
def gB (v0 v1:List GState) (v5:Int):US:=stL 27 [(0,.one (.s .far () 4 (v0.map GState.t))),(1,.one (.s .far () 4 (v1.map GState.t))),(5,.one (tI v5))]
def lw (zv4:Bool):US:=stL 27 [(4,.one (tB zv4))]
def mo  : US:=stL 27 []
abbrev nS:US→Exit→US→Prop:=Round E 28 (aw Tryz.f28 0)
def z7 (v0 v1:List GState) (v5:Int):sS→Prop
 | .ret zv4=>Loops E 28 (aw Tryz.f28 0) (gB v0 v1 v5) .ret (lw zv4)
 | .x0=>Loops E 28 (aw Tryz.f28 0) (gB v0 v1 v5) (.exit 0) (mo)
noncomputable def fA (v1:List GState):List GState→Nat→Option sS
 | [],i=>some (.x0)
 | hd::rest,i=>(aA v1 (i:Int)).bind fun g1=>if hd=g1 then if am.sm hd then cond (yes hd g1)
  (fA v1 rest (i+1))
  (some (.ret false)) else none else none
theorem z6 (v0 v1:List GState) (rest:List GState):∀ (i:Nat) ,(v0).drop i=rest→v0.length≤9223372036854775807→Ans (fA v1 rest i) (z7 v0 v1 (i:Int)):=by
 induction rest with
 | nil =>
  intro i hE hl
  have hb:=bo hE
  unfold fA
  exact KX (KZ (show nS (gB v0 v1 (i:Int)) (.exit 0) (mo) from RP [.val (.int .i64 (v0.length:Int)),.b false] (ALn v0 GState.t<|AC hb<|AN)) (by intro h;cases h))
 | cons hd rest ih =>
  intro i hE hl
  have hb:=aY hE
  have hw:=aZ hE hl
  have hE2:=aH hE
  have hg:=bc hE
  unfold fA
  refine K1 (fun g1 h2 => ?_)
  refine K2 (fun h3 => ?_)
  refine K2 (fun h4 => ?_)
  apply K0<;>intro h5
  ·exact (ih (i+1) hE2 hl).mono fun y hy=>by have r:nS (gB v0 v1 (i:Int)) .normal (gB v0 v1 (inc (i:Int))):=RP [.val (.int .i64 (v0.length:Int)),.b true,.row (GState.t hd),.row (GState.t g1),rT] (ALn v0 GState.t<|AC hb<|AR GState.t hg<|AR GState.t h2<|AD (K5 (ve hd g1 h3 h4) h5)<|AN);rw [hw] at r;cases y<;>exact KY r hy
  ·exact KX (KZ (show nS (gB v0 v1 (i:Int)) .ret (lw false) from RP [.val (.int .i64 (v0.length:Int)),.b true,.row (GState.t hd),.row (GState.t g1),rF] (ALn v0 GState.t<|AC hb<|AR GState.t hg<|AR GState.t h2<|AD (K5 (ve hd g1 h3 h4) h5)<|AN)) (by intro h;cases h))
noncomputable def o6 (x0 x1:List GState):Option (Bool) :=
  cond ((x0.length:Int) != (x1.length:Int))
   (some (false))
   (if x0.length≤9223372036854775807 then (fA x1 x0 0).bind fun y=>match y with
    | .ret w0_4=>(some (w0_4))
    | .x0=>(some (true)) else none)
theorem BV (x0 x1:List GState):Ans (o6 x0 x1) (fun r=>Does E 28 [.one (.s .far () 4 (x0.map GState.t)),.one (.s .far () 4 (x1.map GState.t))] [(false,[tB r])]):=by
 unfold o6
 apply K0<;>intro h0
 ·exact KX (DP Tryz.f28 [.val (.int .i64 (x0.length:Int)),.val (.int .i64 (x1.length:Int)),.b true] (ALn x0 GState.t<|ALn x1 GState.t<|AC h0<|AN))
 ·refine K2 (fun hl2 => ?_)
  refine K1 (fun y hy => ?_)
  replace hy:=z6 x0 x1 x0 0 rfl hl2 y hy
  cases y with
  | ret w0_4 =>
   have h1:=hy
   exact KX (DP Tryz.f28 [.val (.int .i64 (x0.length:Int)),.val (.int .i64 (x1.length:Int)),.b false,.lp .ret (lw w0_4)] (ALn x0 GState.t<|ALn x1 GState.t<|AC h0<|AL h1<|AN))
  | x0 =>
   have h1:=hy
   exact KX (DP Tryz.f28 [.val (.int .i64 (x0.length:Int)),.val (.int .i64 (x1.length:Int)),.b false,.lp (.exit 0) (mo)] (ALn x0 GState.t<|ALn x1 GState.t<|AC h0<|AL h1<|AN))
theorem sL (l:List GState):∀ (rest:List GState) (i:Nat),l.drop i=rest→(∀ y∈rest,am.sm y)→fA l rest i=some .x0
 | [],i,_,_=>rfl
 | x::rest,i,hE,h=>by
  have hx:=h x (by simp)
  unfold fA
  rw [bc hE,Option.bind_some]
  simp only [hx,if_true,yes,bne_self_eq_false,BEq.rfl,Bool.not_true,cond_false,cond_true]
  exact sL l rest (i+1) (aH hE) (fun y hy=>h y (by simp [hy]))
theorem tw (x0:List GState) (x1:List GState) (e:x0=x1) (h:am.sm x0):Does E 28 [.one (.s .far () 4 (x0.map GState.t)),.one (.s .far () 4 (x1.map GState.t))] [(false,[tB (yes x0 x1)])]:=by
 subst e
 exact BV x0 x0 _ (by
  unfold o6
  rw [if_pos (gW h),sL x0 x0 0 rfl h.2]
  simp [yes])
noncomputable def ur (x0 x1:GRun):Option (Bool) :=
  cond (!(x0.f0.toList==x1.f0.toList))
   (some (false))
   (if x0.f1=x1.f1 then if am.sm x0.f1 then cond (yes x0.f1 x1.f1)
    (cond (x0.f2 != x1.f2)
     (some (false))
     (if x0.f3=x1.f3 then if am.sm x0.f3 then cond (yes x0.f3 x1.f3)
      (some (true))
      (some (false)) else none else none))
    (some (false)) else none else none)
theorem GV (x0 x1:GRun):Ans (ur x0 x1) (fun r=>Does E 10 [.agg (GRun.t .far x0),.agg (GRun.t .far x1)] [(false,[tB r])]):=by
 unfold ur
 apply K0<;>intro h0
 ·exact KX (DP Tryz.f10 [.b true] (AC h0<|AN))
 ·refine K2 (fun h1 => ?_)
  refine K2 (fun h2 => ?_)
  apply K0<;>intro h3
  ·apply K0<;>intro h4
   ·exact KX (DP Tryz.f10 [.b false,rT,.b true] (AC h0<|AD (K5 (oj x0.f1 x1.f1 h1 h2) h3)<|AC h4<|AN))
   ·refine K2 (fun h5 => ?_)
    refine K2 (fun h6 => ?_)
    apply K0<;>intro h7
    ·exact KX (DP Tryz.f10 [.b false,rT,.b false,rT] (AC h0<|AD (K5 (oj x0.f1 x1.f1 h1 h2) h3)<|AC h4<|AD (K5 (tw x0.f3 x1.f3 h5 h6) h7)<|AN))
    ·exact KX (DP Tryz.f10 [.b false,rT,.b false,rF] (AC h0<|AD (K5 (oj x0.f1 x1.f1 h1 h2) h3)<|AC h4<|AD (K5 (tw x0.f3 x1.f3 h5 h6) h7)<|AN))
  ·exact KX (DP Tryz.f10 [.b false,rF] (AC h0<|AD (K5 (oj x0.f1 x1.f1 h1 h2) h3)<|AN))
theorem cO (x0:GRun) (x1:GRun) (e:x0=x1) (h:am.sm x0):Does E 10 [.agg (GRun.t .far x0),.agg (GRun.t .far x1)] [(false,[tB (yes x0 x1)])]:=by
 subst e
 obtain ⟨w0,w1,w3⟩:=h
 exact GV x0 x0 _ (by
  unfold ur
  simp only [w1,w3,if_true,yes,bne_self_eq_false,BEq.rfl,Bool.not_true,cond_false,cond_true])
end Go.Proofs.YtdcbjglpdbcjpaaGreatDoor.Am
