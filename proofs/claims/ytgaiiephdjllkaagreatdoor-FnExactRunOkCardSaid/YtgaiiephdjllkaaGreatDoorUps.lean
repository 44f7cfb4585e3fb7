/- What stands above a task; right runs. -/
import Derived.Test.YtgaiiephdjllkaaGreatDoorPlans
namespace Go.Proofs.YtgaiiephdjllkaaGreatDoor.Am
open Go Go.Proofs Classical
set_option maxRecDepth 100000
set_option linter.unusedVariables false
set_option linter.unusedSimpArgs false
inductive Bj where
 | x0 (v5:List Int)
def rk (q0:Kd) (v2_0 v2_1:ByteArray) (v2_2 v2_3:Int) (v2_4:Bool) (v2_5:List GTask) (v5:List Int) (v13:List ByteArray) (v14 v15:Int):US:=stL 29 [(2,.box () [tS v2_0,tS v2_1,tI v2_2,tI v2_3,tB v2_4,.s .far () 5 (v2_5.map (GTask.t q0))]),(5,.one (.s .own () 1 (v5.map etI))),(13,.one (.s .far () 1 (v13.map etS))),(14,.one (tI v14)),(15,.one (tI v15))]
def rj (q0:Kd) (zv5:List Int):US:=stL 29 [(5,.one (.s .own () 1 (zv5.map etI)))]
abbrev Bi:US→Exit→US→Prop:=Round E 85 (az Tryz.f85 0)
def HQ {q0:Kd} (v2_0 v2_1:ByteArray) (v2_2 v2_3:Int) (v2_4:Bool) (v2_5:List GTask) (v5:List Int) (v13:List ByteArray) (v14 v15:Int):Bj→Prop
 | .x0 zv5=>Loops E 85 (az Tryz.f85 0) (rk q0 v2_0 v2_1 v2_2 v2_3 v2_4 v2_5 v5 v13 v14 v15) (.exit 0) (rj q0 zv5)
noncomputable def jk (v2_0 v2_1:ByteArray) (v2_2 v2_3:Int) (v2_5:List GTask):List ByteArray→Nat→Bool→(List Int)→Option Bj
 | [],i,v2_4,v5=>some (.x0 v5)
 | hd::rest,i,v2_4,v5=>if (GDag.mk v2_0 v2_1 v2_2 v2_3 v2_4 v2_5).f5.length≤1050000 then if (v5.length+([bA (GDag.mk v2_0 v2_1 v2_2 v2_3 v2_4 v2_5) hd]).length)*8≤140737488355328∧v5.length+([bA (GDag.mk v2_0 v2_1 v2_2 v2_3 v2_4 v2_5) hd]).length≤4611686018427387904 then jk v2_0 v2_1 v2_2 v2_3 v2_5 rest (i+1) v2_4 (v5++([bA (GDag.mk v2_0 v2_1 v2_2 v2_3 v2_4 v2_5) hd])) else none else none
theorem HP {q0:Kd} (v2_0 v2_1:ByteArray) (v2_2 v2_3:Int) (v2_5:List GTask) (v13:List ByteArray) (rest:List ByteArray):∀ (i:Nat) (v2_4:Bool) (v5:List Int),(v13).drop i=rest→v13.length≤9223372036854775807→Ans (jk v2_0 v2_1 v2_2 v2_3 v2_5 rest i v2_4 v5) (HQ (q0:=q0) v2_0 v2_1 v2_2 v2_3 v2_4 v2_5 v5 v13 (v13.length:Int) (i:Int)):=by
 induction rest with
 | nil =>
  intro i v2_4 v5 hE hl
  have hb:=br hE
  unfold jk
  exact KB (KD (show Bi (rk q0 v2_0 v2_1 v2_2 v2_3 v2_4 v2_5 v5 v13 (v13.length:Int) (i:Int)) (.exit 0) (rj q0 v5) from RP [.b false] (AC hb<|AN)) (by intro h;cases h))
 | cons hd rest ih =>
  intro i v2_4 v5 hE hl
  have hb:=bd hE
  have hw:=be hE hl
  have hE2:=aJ hE
  have hg:=ba hE
  unfold jk
  refine KG (fun h2 => ?_)
  refine KG (fun h3 => ?_)
  exact (ih (i+1) v2_4 (v5++([bA (GDag.mk v2_0 v2_1 v2_2 v2_3 v2_4 v2_5) hd])) hE2 hl).mono fun y hy=>by have r:Bi (rk q0 v2_0 v2_1 v2_2 v2_3 v2_4 v2_5 v5 v13 (v13.length:Int) (i:Int)) .normal (rk q0 v2_0 v2_1 v2_2 v2_3 v2_4 v2_5 (v5++([bA (GDag.mk v2_0 v2_1 v2_2 v2_3 v2_4 v2_5) hd])) v13 (v13.length:Int) (inc (i:Int))):=RP [.b true,.row (etS hd),.ret [(false,[tI (bA (GDag.mk v2_0 v2_1 v2_2 v2_3 v2_4 v2_5) hd)])],.rows ((v5++([bA (GDag.mk v2_0 v2_1 v2_2 v2_3 v2_4 v2_5) hd])).map etI)] (AC hb<|AR etS hg<|AV (ψ:=fun k=>E.C k 54 [.agg (GDag.t .far q0 (GDag.mk v2_0 v2_1 v2_2 v2_3 v2_4 v2_5)),.one (tS hd)]=some [(false,[tI (bA (GDag.mk v2_0 v2_1 v2_2 v2_3 v2_4 v2_5) hd)])]) (eB (GDag.mk v2_0 v2_1 v2_2 v2_3 v2_4 v2_5) hd h2)<|AAp etI (fun _=>rfl) h3<|AN);rw [hw] at r;cases y<;>exact KC r hy
noncomputable def ul (x0:GDag) (x1:Int):Option ((List Int)) :=
  (aq x0.f5 x1).bind fun g0=>if g0.f4.length≤9223372036854775807 then (jk x0.f0 x0.f1 x0.f2 x0.f3 x0.f5 g0.f4 0 x0.f4 ([])).bind fun y=>match y with
   | .x0 w0_5=>(if w0_5.length<4611686018427387904 then some (dg w0_5) else none) else none
theorem Iv {q0:Kd} (x0:GDag) (x1:Int):Ans (ul x0 x1) (fun r=>Does E 85 [.agg (GDag.t .far q0 x0),.one (tI x1)] [(false,[.s .own () 1 (r.map etI)])]):=by
 unfold ul
 refine KF (fun g0 h0 => ?_)
 refine KG (fun hl1 => ?_)
 refine KF (fun y hy => ?_)
 replace hy:=HP (q0:=q0) x0.f0 x0.f1 x0.f2 x0.f3 x0.f5 g0.f4 g0.f4 0 x0.f4 ([]) rfl hl1 y hy
 cases y with
 | x0 w0_5 =>
  have h1:=hy
  refine KG (fun h2 => ?_)
  exact KB (DP Tryz.f85 [.row ((GTask.t q0) g0),.val (.int .i64 (g0.f4.length:Int)),.lp (.exit 0) (rj q0 w0_5),.ret [(false,[.s .own () 1 ((dg w0_5).map etI)])]] (AR (GTask.t q0) h0<|ALn g0.f4 etS<|AL h1<|AC (p:=(w0_5.map etI).length=(w0_5.map etI).length) rfl<|AV (ψ:=fun k=>E.C k 98 [.one (.s .own () 1 (w0_5.map etI))]=some [(false,[.s .own () 1 ((dg w0_5).map etI)])]) (nE w0_5 h2)<|AN))
inductive u5 where
 | x2 (v5:List Int)
def iP (q0:Kd) (v1:Int) (v2_0 v2_1:ByteArray) (v2_2 v2_3:Int) (v2_4:Bool) (v2_5:List GTask) (v5:List Int) (v6 v7:Int):US:=stL 48 [(1,.one (tI v1)),(2,.box () [tS v2_0,tS v2_1,tI v2_2,tI v2_3,tB v2_4,.s .far () 5 (v2_5.map (GTask.t q0))]),(5,.one (.s .own () 1 (v5.map etI))),(6,.one (tI v6)),(7,.one (tI v7))]
def nC (q0:Kd) (v1:Int) (v2_0 v2_1:ByteArray) (v2_2 v2_3:Int) (v2_4:Bool) (v2_5:List GTask) (v6:Int) (zv5:List Int):US:=stL 48 [(1,.one (tI v1)),(2,.box () [tS v2_0,tS v2_1,tI v2_2,tI v2_3,tB v2_4,.s .far () 5 (v2_5.map (GTask.t q0))]),(5,.one (.s .own () 1 (zv5.map etI))),(6,.one (tI v6))]
abbrev pW:US→Exit→US→Prop:=Round E 83 (az Tryz.f83 1)
def Dx {q0:Kd} (v1:Int) (v2_0 v2_1:ByteArray) (v2_2 v2_3:Int) (v2_4:Bool) (v2_5:List GTask) (v5:List Int) (v6 v7:Int):u5→Prop
 | .x2 zv5=>Loops E 83 (az Tryz.f83 1) (iP q0 v1 v2_0 v2_1 v2_2 v2_3 v2_4 v2_5 v5 v6 v7) (.exit 2) (nC q0 v1 v2_0 v2_1 v2_2 v2_3 v2_4 v2_5 v6 zv5)
noncomputable def eG (v2_5:List GTask) (v6:Int):List ByteArray→Nat→Bool→(List Int)→Option u5
 | [],i,v2_4,v5=>some (.x2 v5)
 | hd::rest,i,v2_4,v5=>(aq v2_5 v6).bind fun g2=>cond (hd.toList==g2.f0.toList)
  (if (v5.length+([v6]).length)*8≤140737488355328∧v5.length+([v6]).length≤4611686018427387904 then eG v2_5 v6 rest (i+1) v2_4 (v5++([v6])) else none)
  (eG v2_5 v6 rest (i+1) v2_4 v5)
theorem Dv {q0:Kd} (v1:Int) (v2_0 v2_1:ByteArray) (v2_2 v2_3:Int) (v2_5:List GTask) (v6:Int) (g0:GTask) (hq0:aq v2_5 v1=some g0) (rest:List ByteArray):∀ (i:Nat) (v2_4:Bool) (v5:List Int),(g0.f4).drop i=rest→g0.f4.length≤9223372036854775807→Ans (eG v2_5 v6 rest i v2_4 v5) (Dx (q0:=q0) v1 v2_0 v2_1 v2_2 v2_3 v2_4 v2_5 v5 v6 (i:Int)):=by
 induction rest with
 | nil =>
  intro i v2_4 v5 hE hl
  have hb:=br hE
  unfold eG
  exact KB (KD (show pW (iP q0 v1 v2_0 v2_1 v2_2 v2_3 v2_4 v2_5 v5 v6 (i:Int)) (.exit 2) (nC q0 v1 v2_0 v2_1 v2_2 v2_3 v2_4 v2_5 v6 v5) from RP [.row ((GTask.t q0) g0),.val (.int .i64 (g0.f4.length:Int)),.b false] (AR (GTask.t q0) hq0<|ALn g0.f4 etS<|AC hb<|AN)) (by intro h;cases h))
 | cons hd rest ih =>
  intro i v2_4 v5 hE hl
  have hb:=bd hE
  have hw:=be hE hl
  have hE2:=aJ hE
  have hg:=ba hE
  unfold eG
  refine KF (fun g2 h3 => ?_)
  apply KE<;>intro h4
  ·refine KG (fun h5 => ?_)
   exact (ih (i+1) v2_4 (v5++([v6])) hE2 hl).mono fun y hy=>by have r:pW (iP q0 v1 v2_0 v2_1 v2_2 v2_3 v2_4 v2_5 v5 v6 (i:Int)) .normal (iP q0 v1 v2_0 v2_1 v2_2 v2_3 v2_4 v2_5 (v5++([v6])) v6 (inc (i:Int))):=RP [.row ((GTask.t q0) g0),.val (.int .i64 (g0.f4.length:Int)),.b true,.row ((GTask.t q0) g0),.row (etS hd),.row ((GTask.t q0) g2),.b true,.rows ((v5++([v6])).map etI)] (AR (GTask.t q0) hq0<|ALn g0.f4 etS<|AC hb<|AR (GTask.t q0) hq0<|AR etS hg<|AR (GTask.t q0) h3<|AC h4<|AAp etI (fun _=>rfl) h5<|AN);rw [hw] at r;cases y<;>exact KC r hy
  ·exact (ih (i+1) v2_4 v5 hE2 hl).mono fun y hy=>by have r:pW (iP q0 v1 v2_0 v2_1 v2_2 v2_3 v2_4 v2_5 v5 v6 (i:Int)) .normal (iP q0 v1 v2_0 v2_1 v2_2 v2_3 v2_4 v2_5 v5 v6 (inc (i:Int))):=RP [.row ((GTask.t q0) g0),.val (.int .i64 (g0.f4.length:Int)),.b true,.row ((GTask.t q0) g0),.row (etS hd),.row ((GTask.t q0) g2),.b false] (AR (GTask.t q0) hq0<|ALn g0.f4 etS<|AC hb<|AR (GTask.t q0) hq0<|AR etS hg<|AR (GTask.t q0) h3<|AC h4<|AN);rw [hw] at r;cases y<;>exact KC r hy
inductive u4 where
 | x0 (v5:List Int)
def mW (q0:Kd) (v1:Int) (v2_0 v2_1:ByteArray) (v2_2 v2_3:Int) (v2_4:Bool) (v2_5:List GTask) (v5:List Int) (v6:Int):US:=stL 48 [(1,.one (tI v1)),(2,.box () [tS v2_0,tS v2_1,tI v2_2,tI v2_3,tB v2_4,.s .far () 5 (v2_5.map (GTask.t q0))]),(5,.one (.s .own () 1 (v5.map etI))),(6,.one (tI v6))]
def nB (q0:Kd) (zv5:List Int):US:=stL 48 [(5,.one (.s .own () 1 (zv5.map etI)))]
abbrev u3:US→Exit→US→Prop:=Round E 83 (az Tryz.f83 0)
def Dw {q0:Kd} (v1:Int) (v2_0 v2_1:ByteArray) (v2_2 v2_3:Int) (v2_4:Bool) (v2_5:List GTask) (v5:List Int) (v6:Int):u4→Prop
 | .x0 zv5=>Loops E 83 (az Tryz.f83 0) (mW q0 v1 v2_0 v2_1 v2_2 v2_3 v2_4 v2_5 v5 v6) (.exit 0) (nB q0 zv5)
noncomputable def fv (v1:Int) (v2_5:List GTask):List GTask→Nat→Bool→(List Int)→Option u4
 | [],i,v2_4,v5=>some (.x0 v5)
 | hd::rest,i,v2_4,v5=>(aq v2_5 v1).bind fun e1=>if e1.f4.length≤9223372036854775807 then (eG v2_5 (i:Int) e1.f4 0 v2_4 v5).bind fun y=>match y with
  | .x2 w0_5=>(fv v1 v2_5 rest (i+1) v2_4 w0_5) else none
theorem Du {q0:Kd} (v1:Int) (v2_0 v2_1:ByteArray) (v2_2 v2_3:Int) (v2_5:List GTask) (rest:List GTask):∀ (i:Nat) (v2_4:Bool) (v5:List Int),(v2_5).drop i=rest→v2_5.length≤9223372036854775807→Ans (fv v1 v2_5 rest i v2_4 v5) (Dw (q0:=q0) v1 v2_0 v2_1 v2_2 v2_3 v2_4 v2_5 v5 (i:Int)):=by
 induction rest with
 | nil =>
  intro i v2_4 v5 hE hl
  have hb:=br hE
  unfold fv
  exact KB (KD (show u3 (mW q0 v1 v2_0 v2_1 v2_2 v2_3 v2_4 v2_5 v5 (i:Int)) (.exit 0) (nB q0 v5) from RP [.val (.int .i64 (v2_5.length:Int)),.b false] (ALn v2_5 (GTask.t q0)<|AC hb<|AN)) (by intro h;cases h))
 | cons hd rest ih =>
  intro i v2_4 v5 hE hl
  have hb:=bd hE
  have hw:=be hE hl
  have hE2:=aJ hE
  have hg:=ba hE
  unfold fv
  refine KF (fun e1 k1 => ?_)
  refine KG (fun hl2 => ?_)
  refine KF (fun y hy => ?_)
  replace hy:=Dv (q0:=q0) v1 v2_0 v2_1 v2_2 v2_3 v2_5 (i:Int) e1 k1 e1.f4 0 v2_4 v5 rfl hl2 y hy
  cases y with
  | x2 w0_5 =>
   have h1:=hy
   exact (ih (i+1) v2_4 w0_5 hE2 hl).mono fun y hy=>by have r:u3 (mW q0 v1 v2_0 v2_1 v2_2 v2_3 v2_4 v2_5 v5 (i:Int)) .normal (mW q0 v1 v2_0 v2_1 v2_2 v2_3 v2_4 v2_5 w0_5 (inc (i:Int))):=RP [.val (.int .i64 (v2_5.length:Int)),.b true,.lp (.exit 2) (nC q0 v1 v2_0 v2_1 v2_2 v2_3 v2_4 v2_5 (i:Int) w0_5)] (ALn v2_5 (GTask.t q0)<|AC hb<|AL h1<|AN);rw [hw] at r;cases y<;>exact KC r hy
noncomputable def nU (x0:GDag) (x1:Int):Option ((List Int)) :=
  if x0.f5.length≤9223372036854775807 then (fv x1 x0.f5 x0.f5 0 x0.f4 ([])).bind fun y=>match y with
   | .x0 w0_5=>(some (w0_5)) else none
theorem Fx {q0:Kd} (x0:GDag) (x1:Int):Ans (nU x0 x1) (fun r=>Does E 83 [.agg (GDag.t .far q0 x0),.one (tI x1)] [(false,[.s .own () 1 (r.map etI)])]):=by
 unfold nU
 refine KG (fun hl1 => ?_)
 refine KF (fun y hy => ?_)
 replace hy:=Du (q0:=q0) x1 x0.f0 x0.f1 x0.f2 x0.f3 x0.f5 x0.f5 0 x0.f4 ([]) rfl hl1 y hy
 cases y with
 | x0 w0_5 =>
  have h0:=hy
  exact KB (DP Tryz.f83 [.lp (.exit 0) (nB q0 w0_5)] (AL h0<|AN))
noncomputable def H6 (ts:List GTask) (t:GTask):List Int:=dg (t.f4.map (ar ts))
noncomputable def ups (d:GDag) (i:Int):List Int:=match aq d.f5 i with | some t=>H6 d.f5 t | none=>[]
theorem vk {d:GDag} (h:aP d=true):d.f5.length≤4∧1≤d.f5.length∧du d.f5 d.f5 0=true∧eh d.f5∧(km d.f5).length=d.f5.length:=by
 unfold aP at h
 simp only [Bool.and_eq_true,beq_iff_eq] at h
 obtain ⟨_,_,_,_,h5,h6,h7⟩:=h
 have h4:1≤d.f5.length∧d.f5.length≤4:=by unfold ag at h5;simp at h5;omega
 exact ⟨h4.2,h4.1,h6,rb h4.2 h6,by omega⟩
theorem wL {ts:List GTask} (h:du ts ts 0=true) {k:Nat} {t:GTask} (hk:ts[k]?=some t):asc t.f0 t.f4 none=true∧∀ n∈t.f4,0≤ar ts n:=by
 have:=rz ts ts 0 rfl h k t (Nat.zero_le _) hk
 unfold gF at this
 simp only [Bool.and_eq_true] at this
 exact ⟨this.2.2.2.2.1,fun n hn=>of_decide_eq_true (List.all_eq_true.1 this.2.2.2.2.2 n hn)⟩
theorem zW (ts:List GTask) {a b:ByteArray} (h:tx a=tx b):ar ts a=ar ts b:=by
 rw [w8 h]
theorem rL {ts:List GTask} {n:ByteArray} (h:0≤ar ts n):∃ (k:Nat) (t:GTask),ar ts n=(k:Int)∧ts[k]?=some t∧tx t.f0=tx n:=by
 unfold ar at h ⊢
 rcases lv n ts 0 with ⟨h',_⟩ | ⟨k,t,h1,h2,h3⟩
 ·rw [h'] at h;omega
 ·unfold gY at h3
  rw [iy,decide_eq_true_eq] at h3
  exact ⟨k,t,by rw [h1];omega,h2,h3⟩
theorem su {l:List Int} (hn:l.Nodup):(dg l).Pairwise (· < ·)∧∀ x,x∈dg l↔x∈l:=by
 have hs:(dg l).Pairwise (· ≤ ·):=by
  have:=List.pairwise_mergeSort (le:=fun x y:Int=>decide (x≤y)) (fun a b c=>by simp;omega) (fun a b=>by simp;omega) l
  exact this.imp fun h=>by simpa using h
 have hp:(dg l).Perm l:=List.mergeSort_perm l _
 have hd:(dg l).Nodup:=hp.nodup_iff.2 hn
 refine ⟨?_,fun x=>hp.mem_iff⟩
 have:=hs.and hd
 exact this.imp fun ⟨a,b⟩=>by omega
theorem yY {ts:List GTask} {t:GTask} (ha:asc t.f0 t.f4 none=true) (h0:∀ n∈t.f4,0≤ar ts n):(t.f4.map (ar ts)).Nodup:=by
 have hn:=(o7 t.f0 t.f4 none ha).1
 unfold List.Nodup at hn ⊢
 rw [List.pairwise_map] at hn ⊢
 refine hn.imp_of_mem fun {a b} hA hB hne e => ?_
 obtain ⟨k,u,e1,e2,e3⟩:=rL (h0 a hA)
 obtain ⟨j,v,g1,g2,g3⟩:=rL (h0 b hB)
 have:k=j:=by omega
 subst this
 rw [e2] at g2
 cases g2
 exact hne (e3.symm.trans g3)
def ga (af:List ByteArray):List GTask→Nat→List Int
 | [],_=>[]
 | t::r,k=>(af.filter fun n=>n.toList==t.f0.toList).map (fun _=>(k:Int))++ga af r (k+1)
theorem wc {x:ByteArray}:∀ {l:List ByteArray},(l.map tx).Nodup→(l.filter fun n=>n.toList==x.toList).length≤1
 | [],_=>by simp
 | y::l,h=>by
  rw [List.map_cons,List.nodup_cons] at h
  have ih:=wc (x:=x) h.2
  rw [List.filter_cons]
  split
  ·rename_i q
   rw [iy,decide_eq_true_eq] at q
   have:l.filter (fun n=>n.toList==x.toList)=[]:=by
    rw [List.filter_eq_nil_iff]
    intro z hz e
    rw [iy,decide_eq_true_eq] at e
    exact h.1 (List.mem_map.2 ⟨z,hz,e.trans q.symm⟩)
   rw [this];simp
  ·exact ih
theorem xa {af:List ByteArray} (hn:(af.map tx).Nodup):∀ (l:List GTask) (k:Nat),(ga af l k).Pairwise (· < ·)∧(∀ x∈ga af l k,(k:Int)≤x)∧∀ x,x∈ga af l k↔∃ (j:Nat) (t:GTask),l[j]?=some t∧x=((k+j:Nat):Int)∧∃ n∈af,tx n=tx t.f0
 | [],k=>⟨by simp [ga],fun x hx=>by simp [ga] at hx,fun x=>by simp [ga]⟩
 | t::l,k=>by
  obtain ⟨h1,h2,h3⟩:=xa hn l (k+1)
  unfold ga
  have hf:=wc (x:=t.f0) hn
  have hmem:∀ x,x∈(af.filter fun n=>n.toList==t.f0.toList).map (fun _=>(k:Int))↔x=(k:Int)∧∃ n∈af,tx n=tx t.f0:=fun x=>by
   rw [List.mem_map]
   constructor
   ·rintro ⟨n,hm,rfl⟩
    rw [List.mem_filter,iy,decide_eq_true_eq] at hm
    exact ⟨rfl,n,hm⟩
   ·rintro ⟨rfl,n,hm⟩
    exact ⟨n,by rw [List.mem_filter,iy,decide_eq_true_eq];exact hm,rfl⟩
  refine ⟨?_,fun x hx => ?_,fun x => ?_⟩
  ·rw [List.pairwise_append]
   refine ⟨?_,h1,fun a ha b hb => ?_⟩
   ·generalize (af.filter fun n=>n.toList==t.f0.toList)=L at hf
    match L,hf with
    | [],_=>simp
    | [y],_=>simp
    | y::z::w,hf=>simp at hf
   ·have:=((hmem a).1 ha).1
    have:=h2 b hb
    omega
  ·rcases List.mem_append.1 hx with hx | hx
   ·have:=((hmem x).1 hx).1;omega
   ·have:=h2 x hx;omega
  ·rw [List.mem_append,hmem,h3]
   constructor
   ·rintro (⟨e,hn⟩ | ⟨j,u,e1,e2,hn⟩)
    ·exact ⟨0,t,rfl,by omega,hn⟩
    ·exact ⟨j+1,u,e1,by omega,hn⟩
   ·rintro ⟨j,u,e1,e2,hn⟩
    cases j with
    | zero=>cases e1;exact .inl ⟨by omega,hn⟩
    | succ j=>exact .inr ⟨j,u,e1,by omega,hn⟩
theorem H7 {ts:List GTask} (hg:eh ts) {t:GTask} (ha:asc t.f0 t.f4 none=true) (h0:∀ n∈t.f4,0≤ar ts n):ga t.f4 ts 0=H6 ts t:=by
 obtain ⟨a1, -,a3⟩:=xa (o7 t.f0 t.f4 none ha).1 ts 0
 obtain ⟨b1,b2⟩:=su (yY ha h0)
 refine ue a1 b1 fun x => ?_
 rw [a3]
 show _↔x∈dg _
 rw [b2,List.mem_map]
 constructor
 ·rintro ⟨j,u,e1,e2,n,hn,e3⟩
  refine ⟨n,hn,?_⟩
  rw [zW ts e3,hg.2 j u e1]
  omega
 ·rintro ⟨n,hn,rfl⟩
  obtain ⟨k,u,e1,e2,e3⟩:=rL (h0 n hn)
  exact ⟨k,u,e2,by rw [e1];omega,n,hn,e3.symm⟩
theorem Hd (a b:ByteArray) (c e:Int) (ts:List GTask) (ht:ts.length≤1050000):∀ (l:List ByteArray) (i:Nat) (z:Bool) (v:List Int),v.length+l.length≤2000000→jk a b c e ts l i z v=some (.x0 (v++l.map (ar ts)))
 | [],i,z,v,_=>by unfold jk;simp
 | n::l,i,z,v,hl=>by
  simp only [List.length_cons] at hl
  unfold jk
  rw [if_pos (show (GDag.mk a b c e z ts).f5.length≤1050000 from ht),if_pos (by simp;omega),Hd a b c e ts ht l (i+1) z _ (by simp;omega)]
  simp [bA]
theorem Jw (d:GDag) (i:Int) (h:ak.sm d) (hi:0≤i∧i<(d.f5.length:Int)):ul d i=some (ups d i):=by
 have hs:ak.sm d.f5:=h.2.2
 obtain ⟨t,hg,hm⟩:=eY hi
 have h4:t.f4.length≤1050000:=(hs.2 t hm).2.2.1
 unfold ul ups
 rw [hg,Option.bind_some,if_pos (by omega),Hd _ _ _ _ _ hs.1 _ _ _ _ (by simp;omega),Option.bind_some]
 simp only [List.nil_append]
 rw [if_pos (by rw [List.length_map];omega)]
 rfl
theorem Cq (ts:List GTask) (k:Nat) (u:GTask) (hu:ts[k]?=some u):∀ (l:List ByteArray) (i:Nat) (z:Bool) (v:List Int),v.length+l.length≤8000000→eG ts (k:Int) l i z v=some (.x2 (v++(l.filter fun n=>n.toList==u.f0.toList).map fun _=>(k:Int)))
 | [],i,z,v,_=>by unfold eG;simp
 | n::l,i,z,v,hl=>by
  simp only [List.length_cons] at hl
  have hg:aq ts (k:Int)=some u:=by rw [ex];exact hu
  unfold eG
  rw [hg,Option.bind_some,List.filter_cons]
  cases n.toList==u.f0.toList with
  | true=>rw [cond_true,if_pos (by simp;omega),Cq ts k u hu l (i+1) z _ (by simp;omega)];simp
  | false=>rw [cond_false,Cq ts k u hu l (i+1) z v (by omega)];simp
theorem Hc (ts:List GTask) (i:Int) (t:GTask) (hg:aq ts i=some t) (h4:t.f4.length≤1050000) (hl4:ts.length≤4):∀ (l:List GTask) (k:Nat) (z:Bool) (v:List Int),ts.drop k=l→v.length+l.length*1050000≤6000000→fv i ts l k z v=some (.x0 (v++ga t.f4 l k))
 | [],k,z,v,_,_=>by unfold fv ga;rw [List.append_nil]
 | u::l,k,z,v,hd,hv=>by
  have hu:ts[k]?=some u:=by rw [← List.head?_drop,hd];rfl
  simp only [List.length_cons] at hv
  have hf:=List.length_filter_le (fun n:ByteArray=>n.toList==u.f0.toList) t.f4
  unfold fv ga
  rw [hg,Option.bind_some,if_pos (by omega),Cq ts k u hu _ _ _ _ (by omega),Option.bind_some]
  simp only
  rw [Hc ts i t hg h4 hl4 l (k+1) z _ (aJ hd) (by simp;omega),List.append_assoc]
theorem Jx (d:GDag) (i:Int) (h:ak.sm d) (hd:aP d=true) (hi:0≤i∧i<(d.f5.length:Int)):nU d i=some (ups d i):=by
 obtain ⟨h4, -,hr,hgn, -⟩:=vk hd
 have hs:ak.sm d.f5:=h.2.2
 obtain ⟨t,hg,hm⟩:=eY hi
 have hf:t.f4.length≤1050000:=(hs.2 t hm).2.2.1
 obtain ⟨h0,hk⟩:=m7 hg
 obtain ⟨ha,hn⟩:=wL hr hk
 unfold nU ups
 rw [if_pos (by omega),hg,Hc d.f5 i t hg hf h4 d.f5 0 d.f4 [] rfl (by simp;omega),Option.bind_some]
 simp only [List.nil_append]
 rw [H7 hgn ha hn]
theorem Jn {d:GDag} {i:Int} (hd:aP d=true) (hi:0≤i∧i<(d.f5.length:Int)):(∀ x∈ups d i,0≤x∧x<(d.f5.length:Int))∧(ups d i).length≤4:=by
 obtain ⟨h4, -,hr,hgn, -⟩:=vk hd
 obtain ⟨t,hg,hm⟩:=eY hi
 obtain ⟨h0,hk⟩:=m7 hg
 obtain ⟨ha,hn⟩:=wL hr hk
 have e:ups d i=H6 d.f5 t:=by unfold ups;rw [hg]
 obtain ⟨b1,b2⟩:=su (yY ha hn)
 have hx:∀ x∈ups d i,0≤x∧x<(d.f5.length:Int):=fun x hx=>by
  rw [e] at hx
  obtain ⟨n,hm,rfl⟩:=List.mem_map.1 ((b2 x).1 hx)
  exact ⟨hn n hm,(FC d.f5 n).2⟩
 refine ⟨hx,?_⟩
 have:=rA 0 ((d.f5.length:Int)-1) (ups d i) 0 (by rw [e];exact b1) (fun x h=>by have:=hx x h;omega) (by omega)
 omega
theorem DI {q0:Kd} (x0:GDag) (x1:Int) (h:ak.sm x0) (hd:aP x0=true) (hi:0≤x1∧x1<(x0.f5.length:Int)):Does E 85 [.agg (GDag.t .far q0 x0),.one (tI x1)] [(false,[.s .own () 1 ((ups x0 x1).map etI)])]:=by
 exact Iv x0 x1 _ (Jw x0 x1 h hi)
theorem Eo {q0:Kd} (x0:GDag) (x1:Int) (h:ak.sm x0) (hd:aP x0=true) (hi:0≤x1∧x1<(x0.f5.length:Int)):Does E 83 [.agg (GDag.t .far q0 x0),.one (tI x1)] [(false,[.s .own () 1 ((ups x0 x1).map etI)])]:=by
 exact Fx x0 x1 _ (Jx x0 x1 h hd hi)
noncomputable def wt (x0:GDag) (x1:Int):Option (Bool) :=
  some (ag x1 (0:Int) (IntKind.wrap .i64 ((x0.f5.length:Int)-(1:Int))))
theorem E4 {q0:Kd} (x0:GDag) (x1:Int):Ans (wt x0 x1) (fun r=>Does E 40 [.agg (GDag.t .far q0 x0),.one (tI x1)] [(false,[tB r])]):=by
 unfold wt
 exact KB (DP Tryz.f40 [.val (.int .i64 (x0.f5.length:Int)),.ret [(false,[tB (ag x1 (0:Int) (IntKind.wrap .i64 ((x0.f5.length:Int)-(1:Int))))])]] (ALn x0.f5 (GTask.t q0)<|AD (ax x1 (0:Int) (IntKind.wrap .i64 ((x0.f5.length:Int)-(1:Int))))<|AN))
def m9 (d:GDag) (i:Int):Bool:=ag i 0 (IntKind.wrap .i64 ((d.f5.length:Int)-1))
theorem yI {d:GDag} {i:Int} (h:m9 d i=true) (hs:ak.sm d):0≤i∧i<(d.f5.length:Int):=Da h hs.2.2.1
theorem qK {q0:Kd} (x0:GDag) (x1:Int):Does E 40 [.agg (GDag.t .far q0 x0),.one (tI x1)] [(false,[tB (m9 x0 x1)])]:=by
 exact E4 x0 x1 _ rfl
end Go.Proofs.YtgaiiephdjllkaaGreatDoor.Am
namespace Go.Proofs.YtgaiiephdjllkaaGreatDoor.Am
open Go Go.Proofs Classical
set_option maxRecDepth 100000
set_option linter.unusedVariables false
set_option linter.unusedSimpArgs false
noncomputable def pX (x0:GSpan):Option (Bool) :=
  cond (decide (x0.f0≥(0:Int)))
   (cond (decide (x0.f0<x0.f1))
    (some (decide (x0.f1≤(68374079:Int))))
    (some (false)))
   (some (false))
theorem DA (x0:GSpan):Ans (pX x0) (fun r=>Does E 24 [.agg (GSpan.t x0)] [(false,[tB r])]):=by
 unfold pX
 apply KE<;>intro h0
 ·apply KE<;>intro h1
  ·exact KB (DP Tryz.f24 [.b true,.b true] (AC h0<|AC h1<|AN))
  ·exact KB (DP Tryz.f24 [.b true,.b false] (AC h0<|AC h1<|AN))
 ·exact KB (DP Tryz.f24 [.b false] (AC h0<|AN))
def nb (s:GSpan):Bool:=decide (s.f0≥0)&&(decide (s.f0<s.f1)&&decide (s.f1≤68374079))
theorem ke (x0:GSpan):Does E 24 [.agg (GSpan.t x0)] [(false,[tB (nb x0)])]:=by
 exact DA x0 _ (by unfold pX nb;cases decide (x0.f0≥0)<;>cases decide (x0.f0<x0.f1)<;>rfl)
noncomputable def rg (x0:GSpan):Option (Bool) :=
  cond (decide (x0.f0≥(0:Int)))
   (cond (decide (x0.f0<x0.f1))
    (some (decide (x0.f1≤(68374079:Int))))
    (some (false)))
   (some (false))
theorem E7 (x0:GSpan):Ans (rg x0) (fun r=>Does E 26 [.agg (GSpan.t x0)] [(false,[tB r])]):=by
 unfold rg
 apply KE<;>intro h0
 ·apply KE<;>intro h1
  ·exact KB (DP Tryz.f26 [.b true,.b true] (AC h0<|AC h1<|AN))
  ·exact KB (DP Tryz.f26 [.b true,.b false] (AC h0<|AC h1<|AN))
 ·exact KB (DP Tryz.f26 [.b false] (AC h0<|AN))
theorem lq (x0:GSpan):Does E 26 [.agg (GSpan.t x0)] [(false,[tB (nb x0)])]:=by
 exact E7 x0 _ (by unfold rg nb;cases decide (x0.f0≥0)<;>cases decide (x0.f0<x0.f1)<;>rfl)
end Go.Proofs.YtgaiiephdjllkaaGreatDoor.Am
namespace Go.Proofs.YtgaiiephdjllkaaGreatDoor.Am
open Go Go.Proofs Classical
set_option maxRecDepth 100000
set_option linter.unusedVariables false
set_option linter.unusedSimpArgs false
noncomputable def tp (x0:GState):Option (Bool) :=
  cond (x0.f0==(3:Int))
   (some (true))
   (some (x0.f0==(4:Int)))
theorem Gk (x0:GState):Ans (tp x0) (fun r=>Does E 84 [.agg (GState.t x0)] [(false,[tB r])]):=by
 unfold tp
 apply KE<;>intro h0
 ·exact KB (DP Tryz.f84 [.b true] (AC h0<|AN))
 ·exact KB (DP Tryz.f84 [.b false] (AC h0<|AN))
noncomputable def wr (x0:GState):Option (Bool) :=
  some (x0.f0==(2:Int))
theorem E3 (x0:GState):Ans (wr x0) (fun r=>Does E 64 [.agg (GState.t x0)] [(false,[tB r])]):=by
 unfold wr
 exact KB (DP Tryz.f64 [] AN)
def d8 (x:GState):Bool:=x.f0==3 || x.f0==4
def dj (x:GState):Bool:=x.f0==2
theorem oY (x0:GState):Does E 84 [.agg (GState.t x0)] [(false,[tB (d8 x0)])]:=by
 exact Gk x0 _ (by unfold tp d8;cases x0.f0==3<;>rfl)
theorem nF (x0:GState):Does E 64 [.agg (GState.t x0)] [(false,[tB (dj x0)])]:=by
 exact E3 x0 _ rfl
inductive u7 where
 | x0 (v8 v9:Bool)
def bN (q0:Kd) (v4_0:ByteArray) (v4_1 v4_2 v4_3:Int) (v4_4:List GState) (v8 v9:Bool) (v10:List Int) (v11:Int):US:=stL 47 [(4,.box () [tS v4_0,tI v4_1,tI v4_2,tI v4_3,.s .far () 4 (v4_4.map GState.t)]),(8,.one (tB v8)),(9,.one (tB v9)),(10,.one (.s .own () 1 (v10.map etI))),(11,.one (tI v11))]
def fY (q0:Kd) (zv8 zv9:Bool):US:=stL 47 [(8,.one (tB zv8)),(9,.one (tB zv9))]
abbrev dV:US→Exit→US→Prop:=Round E 60 (az Tryz.f60 0)
def DC {q0:Kd} (v4_0:ByteArray) (v4_1 v4_2 v4_3:Int) (v4_4:List GState) (v8 v9:Bool) (v10:List Int) (v11:Int):u7→Prop
 | .x0 zv8 zv9=>Loops E 60 (az Tryz.f60 0) (bN q0 v4_0 v4_1 v4_2 v4_3 v4_4 v8 v9 v10 v11) (.exit 0) (fY q0 zv8 zv9)
noncomputable def da (v4_4:List GState) (v10:List Int):Nat→Bool→Bool→Int→Option u7
 | 0,_,_,_=>none
 | n+1,v8,v9,v11=>match v8 with
  | true=>match v9 with
   | true=>cond (decide (v11<(v10.length:Int)))
    ((aq v10 v11).bind fun g0=>(aq v4_4 g0).bind fun g1=>da v4_4 v10 n (g1.f0==(2:Int)) true (inc v11))
    (some (.x0 v8 v9))
   | false=>cond (decide (v11<(v10.length:Int)))
    ((aq v10 v11).bind fun g0=>(aq v4_4 g0).bind fun g1=>cond (g1.f0==(3:Int))
     (da v4_4 v10 n (g1.f0==(2:Int)) true (inc v11))
     (da v4_4 v10 n (g1.f0==(2:Int)) (g1.f0==(4:Int)) (inc v11)))
    (some (.x0 v8 v9))
  | false=>match v9 with
   | true=>cond (decide (v11<(v10.length:Int)))
    ((aq v10 v11).bind fun g0=>(aq v4_4 g0).bind fun g1=>da v4_4 v10 n false true (inc v11))
    (some (.x0 v8 v9))
   | false=>cond (decide (v11<(v10.length:Int)))
    ((aq v10 v11).bind fun g0=>(aq v4_4 g0).bind fun g1=>cond (g1.f0==(3:Int))
     (da v4_4 v10 n false true (inc v11))
     (da v4_4 v10 n false (g1.f0==(4:Int)) (inc v11)))
    (some (.x0 v8 v9))
theorem DB {q0:Kd} (v4_0:ByteArray) (v4_1 v4_2 v4_3:Int) (v4_4:List GState) (v10:List Int) (n:Nat):∀ (v8 v9:Bool) (v11:Int),Ans (da v4_4 v10 n v8 v9 v11) (DC (q0:=q0) v4_0 v4_1 v4_2 v4_3 v4_4 v8 v9 v10 v11):=by
 induction n with
 | zero=>intros;exact Ans.none
 | succ n ih =>
  intro v8 v9 v11
  unfold da
  cases v8 with
  | true =>
   cases v9 with
   | true =>
    apply KE<;>intro h0
    ·refine KF (fun g0 h1 => ?_)
     refine KF (fun g1 h2 => ?_)
     have r:dV (bN q0 v4_0 v4_1 v4_2 v4_3 v4_4 true true v10 v11) .normal (bN q0 v4_0 v4_1 v4_2 v4_3 v4_4 (g1.f0==(2:Int)) true v10 (inc v11)):=RP [.val (.int .i64 (v10.length:Int)),.b true,.row (etI g0),.row (GState.t g1)] (ALn v10 etI<|AC h0<|AG etI h1<|AR GState.t h2<|AN);exact (ih (g1.f0==(2:Int)) true (inc v11)).mono fun y hy=>by cases y<;>exact KC r hy
    ·exact KB (KD (show dV (bN q0 v4_0 v4_1 v4_2 v4_3 v4_4 true true v10 v11) (.exit 0) (fY q0 true true) from RP [.val (.int .i64 (v10.length:Int)),.b false] (ALn v10 etI<|AC h0<|AN)) (by intro h;cases h))
   | false =>
    apply KE<;>intro h0
    ·refine KF (fun g0 h1 => ?_)
     refine KF (fun g1 h2 => ?_)
     apply KE<;>intro h3
     ·have r:dV (bN q0 v4_0 v4_1 v4_2 v4_3 v4_4 true false v10 v11) .normal (bN q0 v4_0 v4_1 v4_2 v4_3 v4_4 (g1.f0==(2:Int)) true v10 (inc v11)):=RP [.val (.int .i64 (v10.length:Int)),.b true,.row (etI g0),.row (GState.t g1),.no,.b true] (ALn v10 etI<|AC h0<|AG etI h1<|AR GState.t h2<|AC h3<|AN);exact (ih (g1.f0==(2:Int)) true (inc v11)).mono fun y hy=>by cases y<;>exact KC r hy
     ·have r:dV (bN q0 v4_0 v4_1 v4_2 v4_3 v4_4 true false v10 v11) .normal (bN q0 v4_0 v4_1 v4_2 v4_3 v4_4 (g1.f0==(2:Int)) (g1.f0==(4:Int)) v10 (inc v11)):=RP [.val (.int .i64 (v10.length:Int)),.b true,.row (etI g0),.row (GState.t g1),.no,.b false] (ALn v10 etI<|AC h0<|AG etI h1<|AR GState.t h2<|AC h3<|AN);exact (ih (g1.f0==(2:Int)) (g1.f0==(4:Int)) (inc v11)).mono fun y hy=>by cases y<;>exact KC r hy
    ·exact KB (KD (show dV (bN q0 v4_0 v4_1 v4_2 v4_3 v4_4 true false v10 v11) (.exit 0) (fY q0 true false) from RP [.val (.int .i64 (v10.length:Int)),.b false] (ALn v10 etI<|AC h0<|AN)) (by intro h;cases h))
  | false =>
   cases v9 with
   | true =>
    apply KE<;>intro h0
    ·refine KF (fun g0 h1 => ?_)
     refine KF (fun g1 h2 => ?_)
     have r:dV (bN q0 v4_0 v4_1 v4_2 v4_3 v4_4 false true v10 v11) .normal (bN q0 v4_0 v4_1 v4_2 v4_3 v4_4 false true v10 (inc v11)):=RP [.val (.int .i64 (v10.length:Int)),.b true,.row (etI g0),.row (GState.t g1)] (ALn v10 etI<|AC h0<|AG etI h1<|AR GState.t h2<|AN);exact (ih false true (inc v11)).mono fun y hy=>by cases y<;>exact KC r hy
    ·exact KB (KD (show dV (bN q0 v4_0 v4_1 v4_2 v4_3 v4_4 false true v10 v11) (.exit 0) (fY q0 false true) from RP [.val (.int .i64 (v10.length:Int)),.b false] (ALn v10 etI<|AC h0<|AN)) (by intro h;cases h))
   | false =>
    apply KE<;>intro h0
    ·refine KF (fun g0 h1 => ?_)
     refine KF (fun g1 h2 => ?_)
     apply KE<;>intro h3
     ·have r:dV (bN q0 v4_0 v4_1 v4_2 v4_3 v4_4 false false v10 v11) .normal (bN q0 v4_0 v4_1 v4_2 v4_3 v4_4 false true v10 (inc v11)):=RP [.val (.int .i64 (v10.length:Int)),.b true,.row (etI g0),.row (GState.t g1),.b true] (ALn v10 etI<|AC h0<|AG etI h1<|AR GState.t h2<|AC h3<|AN);exact (ih false true (inc v11)).mono fun y hy=>by cases y<;>exact KC r hy
     ·have r:dV (bN q0 v4_0 v4_1 v4_2 v4_3 v4_4 false false v10 v11) .normal (bN q0 v4_0 v4_1 v4_2 v4_3 v4_4 false (g1.f0==(4:Int)) v10 (inc v11)):=RP [.val (.int .i64 (v10.length:Int)),.b true,.row (etI g0),.row (GState.t g1),.b false] (ALn v10 etI<|AC h0<|AG etI h1<|AR GState.t h2<|AC h3<|AN);exact (ih false (g1.f0==(4:Int)) (inc v11)).mono fun y hy=>by cases y<;>exact KC r hy
    ·exact KB (KD (show dV (bN q0 v4_0 v4_1 v4_2 v4_3 v4_4 false false v10 v11) (.exit 0) (fY q0 false false) from RP [.val (.int .i64 (v10.length:Int)),.b false] (ALn v10 etI<|AC h0<|AN)) (by intro h;cases h))
noncomputable def nW (x0:GDag) (x1:GRun) (x2:Int):Option (Bool×Bool) :=
  if ak.sm x0 then if aP x0=true then if 0≤x2∧x2<(x0.f5.length:Int) then (da x1.f3 (ups x0 x2) 9223372036854775808 true false (0:Int)).bind fun y=>match y with
   | .x0 w0_8 w0_9=>(some (w0_8,w0_9)) else none else none else none
theorem Fz {q0:Kd} (x0:GDag) (x1:GRun) (x2:Int):Ans (nW x0 x1 x2) (fun r=>Does E 60 [.agg (GDag.t .far q0 x0),.agg (GRun.t .far x1),.one (tI x2)] [(false,[tB r.1]),(false,[tB r.2])]):=by
 unfold nW
 refine KG (fun h0 => ?_)
 refine KG (fun h1 => ?_)
 refine KG (fun h2 => ?_)
 refine KF (fun y hy => ?_)
 replace hy:=DB (q0:=q0) x1.f0 x1.f1.f0 x1.f1.f1 x1.f2 x1.f3 (ups x0 x2) 9223372036854775808 true false (0:Int) y hy
 cases y with
 | x0 w0_8 w0_9 =>
  have h3:=hy
  exact KB (DP Tryz.f60 [.ret [(false,[.s .own () 1 ((ups x0 x2).map etI)])],.lp (.exit 0) (fY q0 w0_8 w0_9)] (AV (ψ:=fun k=>E.C k 83 [.agg (GDag.t .far q0 x0),.one (tI x2)]=some [(false,[.s .own () 1 ((ups x0 x2).map etI)])]) (Eo x0 x2 h0 h1 h2)<|AL h3<|AN))
inductive lM where
 | x0 (v10 v11:Bool)
def a6 (q0:Kd) (v5_0:ByteArray) (v5_1 v5_2 v5_3:Int) (v5_4:List GState) (v10 v11:Bool) (v17:List Int) (v18 v19:Int):US:=stL 41 [(3,.fni 64 []),(5,.box () [tS v5_0,tI v5_1,tI v5_2,tI v5_3,.s .far () 4 (v5_4.map GState.t)]),(10,.one (tB v10)),(11,.one (tB v11)),(17,.one (.s .own () 1 (v17.map etI))),(18,.one (tI v18)),(19,.one (tI v19))]
def cK (q0:Kd) (zv10 zv11:Bool):US:=stL 41 [(10,.one (tB zv10)),(11,.one (tB zv11))]
abbrev b7:US→Exit→US→Prop:=Round E 63 (az Tryz.f63 0)
def ri {q0:Kd} (v5_0:ByteArray) (v5_1 v5_2 v5_3:Int) (v5_4:List GState) (v10 v11:Bool) (v17:List Int) (v18 v19:Int):lM→Prop
 | .x0 zv10 zv11=>Loops E 63 (az Tryz.f63 0) (a6 q0 v5_0 v5_1 v5_2 v5_3 v5_4 v10 v11 v17 v18 v19) (.exit 0) (cK q0 zv10 zv11)
noncomputable def bC (v5_4:List GState) (v17:List Int) (v18:Int):Nat→Bool→Bool→Int→Option lM
 | 0,_,_,_=>none
 | n+1,v10,v11,v19=>match v10 with
  | true=>match v11 with
   | true=>cond (decide (v19<v18))
    ((aq v17 v19).bind fun g0=>(aq v5_4 g0).bind fun g1=>bC v5_4 v17 v18 n (dj g1) true (inc v19))
    (some (.x0 v10 v11))
   | false=>cond (decide (v19<v18))
    ((aq v17 v19).bind fun g0=>(aq v5_4 g0).bind fun g1=>bC v5_4 v17 v18 n (dj g1) (dj g1) (inc v19))
    (some (.x0 v10 v11))
  | false=>match v11 with
   | true=>cond (decide (v19<v18))
    ((aq v17 v19).bind fun g0=>(aq v5_4 g0).bind fun g1=>bC v5_4 v17 v18 n false true (inc v19))
    (some (.x0 v10 v11))
   | false=>cond (decide (v19<v18))
    ((aq v17 v19).bind fun g0=>(aq v5_4 g0).bind fun g1=>bC v5_4 v17 v18 n false (dj g1) (inc v19))
    (some (.x0 v10 v11))
theorem rh {q0:Kd} (v5_0:ByteArray) (v5_1 v5_2 v5_3:Int) (v5_4:List GState) (v17:List Int) (v18:Int) (n:Nat):∀ (v10 v11:Bool) (v19:Int),Ans (bC v5_4 v17 v18 n v10 v11 v19) (ri (q0:=q0) v5_0 v5_1 v5_2 v5_3 v5_4 v10 v11 v17 v18 v19):=by
 induction n with
 | zero=>intros;exact Ans.none
 | succ n ih =>
  intro v10 v11 v19
  unfold bC
  cases v10 with
  | true =>
   cases v11 with
   | true =>
    apply KE<;>intro h0
    ·refine KF (fun g0 h1 => ?_)
     refine KF (fun g1 h2 => ?_)
     have r:b7 (a6 q0 v5_0 v5_1 v5_2 v5_3 v5_4 true true v17 v18 v19) .normal (a6 q0 v5_0 v5_1 v5_2 v5_3 v5_4 (dj g1) true v17 v18 (inc v19)):=RP [.b true,.row (etI g0),.row (GState.t g1),.ret [(false,[tB (dj g1)])]] (AC h0<|AG etI h1<|AR GState.t h2<|AD (nF g1)<|AN);exact (ih (dj g1) true (inc v19)).mono fun y hy=>by cases y<;>exact KC r hy
    ·exact KB (KD (show b7 (a6 q0 v5_0 v5_1 v5_2 v5_3 v5_4 true true v17 v18 v19) (.exit 0) (cK q0 true true) from RP [.b false] (AC h0<|AN)) (by intro h;cases h))
   | false =>
    apply KE<;>intro h0
    ·refine KF (fun g0 h1 => ?_)
     refine KF (fun g1 h2 => ?_)
     have r:b7 (a6 q0 v5_0 v5_1 v5_2 v5_3 v5_4 true false v17 v18 v19) .normal (a6 q0 v5_0 v5_1 v5_2 v5_3 v5_4 (dj g1) (dj g1) v17 v18 (inc v19)):=RP [.b true,.row (etI g0),.row (GState.t g1),.ret [(false,[tB (dj g1)])]] (AC h0<|AG etI h1<|AR GState.t h2<|AD (nF g1)<|AN);exact (ih (dj g1) (dj g1) (inc v19)).mono fun y hy=>by cases y<;>exact KC r hy
    ·exact KB (KD (show b7 (a6 q0 v5_0 v5_1 v5_2 v5_3 v5_4 true false v17 v18 v19) (.exit 0) (cK q0 true false) from RP [.b false] (AC h0<|AN)) (by intro h;cases h))
  | false =>
   cases v11 with
   | true =>
    apply KE<;>intro h0
    ·refine KF (fun g0 h1 => ?_)
     refine KF (fun g1 h2 => ?_)
     have r:b7 (a6 q0 v5_0 v5_1 v5_2 v5_3 v5_4 false true v17 v18 v19) .normal (a6 q0 v5_0 v5_1 v5_2 v5_3 v5_4 false true v17 v18 (inc v19)):=RP [.b true,.row (etI g0),.row (GState.t g1),.ret [(false,[tB (dj g1)])]] (AC h0<|AG etI h1<|AR GState.t h2<|AD (nF g1)<|AN);exact (ih false true (inc v19)).mono fun y hy=>by cases y<;>exact KC r hy
    ·exact KB (KD (show b7 (a6 q0 v5_0 v5_1 v5_2 v5_3 v5_4 false true v17 v18 v19) (.exit 0) (cK q0 false true) from RP [.b false] (AC h0<|AN)) (by intro h;cases h))
   | false =>
    apply KE<;>intro h0
    ·refine KF (fun g0 h1 => ?_)
     refine KF (fun g1 h2 => ?_)
     have r:b7 (a6 q0 v5_0 v5_1 v5_2 v5_3 v5_4 false false v17 v18 v19) .normal (a6 q0 v5_0 v5_1 v5_2 v5_3 v5_4 false (dj g1) v17 v18 (inc v19)):=RP [.b true,.row (etI g0),.row (GState.t g1),.ret [(false,[tB (dj g1)])]] (AC h0<|AG etI h1<|AR GState.t h2<|AD (nF g1)<|AN);exact (ih false (dj g1) (inc v19)).mono fun y hy=>by cases y<;>exact KC r hy
    ·exact KB (KD (show b7 (a6 q0 v5_0 v5_1 v5_2 v5_3 v5_4 false false v17 v18 v19) (.exit 0) (cK q0 false false) from RP [.b false] (AC h0<|AN)) (by intro h;cases h))
noncomputable def fO (x0:GDag) (x1:GRun) (x2:Int):Option (Bool×Bool) :=
  if ak.sm x0 then if aP x0=true then if 0≤x2∧x2<(x0.f5.length:Int) then (bC x1.f3 (ups x0 x2) ((ups x0 x2).length:Int) 9223372036854775808 true false (0:Int)).bind fun y=>match y with
   | .x0 w0_10 w0_11=>(some (w0_10,w0_11)) else none else none else none
theorem sC {q0:Kd} (x0:GDag) (x1:GRun) (x2:Int):Ans (fO x0 x1 x2) (fun r=>Does E 63 [.agg (GDag.t .far q0 x0),.agg (GRun.t .far x1),.one (tI x2),.fni 64 []] [(false,[tB r.1]),(false,[tB r.2])]):=by
 unfold fO
 refine KG (fun h0 => ?_)
 refine KG (fun h1 => ?_)
 refine KG (fun h2 => ?_)
 refine KF (fun y hy => ?_)
 replace hy:=rh (q0:=q0) x1.f0 x1.f1.f0 x1.f1.f1 x1.f2 x1.f3 (ups x0 x2) ((ups x0 x2).length:Int) 9223372036854775808 true false (0:Int) y hy
 cases y with
 | x0 w0_10 w0_11 =>
  have h3:=hy
  exact KB (DP Tryz.f63 [.ret [(false,[.s .own () 1 ((ups x0 x2).map etI)])],.val (.int .i64 ((ups x0 x2).length:Int)),.lp (.exit 0) (cK q0 w0_10 w0_11)] (AV (ψ:=fun k=>E.C k 85 [.agg (GDag.t .far q0 x0),.one (tI x2)]=some [(false,[.s .own () 1 ((ups x0 x2).map etI)])]) (DI x0 x2 h0 h1 h2)<|ALn (ups x0 x2) etI<|AL h3<|AN))
inductive mh where
 | x0 (v10 v11:Bool)
def bi (q0:Kd) (v5_0:ByteArray) (v5_1 v5_2 v5_3:Int) (v5_4:List GState) (v10 v11:Bool) (v17:List Int) (v18 v19:Int):US:=stL 41 [(3,.fni 84 []),(5,.box () [tS v5_0,tI v5_1,tI v5_2,tI v5_3,.s .far () 4 (v5_4.map GState.t)]),(10,.one (tB v10)),(11,.one (tB v11)),(17,.one (.s .own () 1 (v17.map etI))),(18,.one (tI v18)),(19,.one (tI v19))]
def cV (q0:Kd) (zv10 zv11:Bool):US:=stL 41 [(10,.one (tB zv10)),(11,.one (tB zv11))]
abbrev cn:US→Exit→US→Prop:=Round E 63 (az Tryz.f63 0)
def sB {q0:Kd} (v5_0:ByteArray) (v5_1 v5_2 v5_3:Int) (v5_4:List GState) (v10 v11:Bool) (v17:List Int) (v18 v19:Int):mh→Prop
 | .x0 zv10 zv11=>Loops E 63 (az Tryz.f63 0) (bi q0 v5_0 v5_1 v5_2 v5_3 v5_4 v10 v11 v17 v18 v19) (.exit 0) (cV q0 zv10 zv11)
noncomputable def bI (v5_4:List GState) (v17:List Int) (v18:Int):Nat→Bool→Bool→Int→Option mh
 | 0,_,_,_=>none
 | n+1,v10,v11,v19=>match v10 with
  | true=>match v11 with
   | true=>cond (decide (v19<v18))
    ((aq v17 v19).bind fun g0=>(aq v5_4 g0).bind fun g1=>bI v5_4 v17 v18 n (d8 g1) true (inc v19))
    (some (.x0 v10 v11))
   | false=>cond (decide (v19<v18))
    ((aq v17 v19).bind fun g0=>(aq v5_4 g0).bind fun g1=>bI v5_4 v17 v18 n (d8 g1) (d8 g1) (inc v19))
    (some (.x0 v10 v11))
  | false=>match v11 with
   | true=>cond (decide (v19<v18))
    ((aq v17 v19).bind fun g0=>(aq v5_4 g0).bind fun g1=>bI v5_4 v17 v18 n false true (inc v19))
    (some (.x0 v10 v11))
   | false=>cond (decide (v19<v18))
    ((aq v17 v19).bind fun g0=>(aq v5_4 g0).bind fun g1=>bI v5_4 v17 v18 n false (d8 g1) (inc v19))
    (some (.x0 v10 v11))
theorem sA {q0:Kd} (v5_0:ByteArray) (v5_1 v5_2 v5_3:Int) (v5_4:List GState) (v17:List Int) (v18:Int) (n:Nat):∀ (v10 v11:Bool) (v19:Int),Ans (bI v5_4 v17 v18 n v10 v11 v19) (sB (q0:=q0) v5_0 v5_1 v5_2 v5_3 v5_4 v10 v11 v17 v18 v19):=by
 induction n with
 | zero=>intros;exact Ans.none
 | succ n ih =>
  intro v10 v11 v19
  unfold bI
  cases v10 with
  | true =>
   cases v11 with
   | true =>
    apply KE<;>intro h0
    ·refine KF (fun g0 h1 => ?_)
     refine KF (fun g1 h2 => ?_)
     have r:cn (bi q0 v5_0 v5_1 v5_2 v5_3 v5_4 true true v17 v18 v19) .normal (bi q0 v5_0 v5_1 v5_2 v5_3 v5_4 (d8 g1) true v17 v18 (inc v19)):=RP [.b true,.row (etI g0),.row (GState.t g1),.ret [(false,[tB (d8 g1)])]] (AC h0<|AG etI h1<|AR GState.t h2<|AD (oY g1)<|AN);exact (ih (d8 g1) true (inc v19)).mono fun y hy=>by cases y<;>exact KC r hy
    ·exact KB (KD (show cn (bi q0 v5_0 v5_1 v5_2 v5_3 v5_4 true true v17 v18 v19) (.exit 0) (cV q0 true true) from RP [.b false] (AC h0<|AN)) (by intro h;cases h))
   | false =>
    apply KE<;>intro h0
    ·refine KF (fun g0 h1 => ?_)
     refine KF (fun g1 h2 => ?_)
     have r:cn (bi q0 v5_0 v5_1 v5_2 v5_3 v5_4 true false v17 v18 v19) .normal (bi q0 v5_0 v5_1 v5_2 v5_3 v5_4 (d8 g1) (d8 g1) v17 v18 (inc v19)):=RP [.b true,.row (etI g0),.row (GState.t g1),.ret [(false,[tB (d8 g1)])]] (AC h0<|AG etI h1<|AR GState.t h2<|AD (oY g1)<|AN);exact (ih (d8 g1) (d8 g1) (inc v19)).mono fun y hy=>by cases y<;>exact KC r hy
    ·exact KB (KD (show cn (bi q0 v5_0 v5_1 v5_2 v5_3 v5_4 true false v17 v18 v19) (.exit 0) (cV q0 true false) from RP [.b false] (AC h0<|AN)) (by intro h;cases h))
  | false =>
   cases v11 with
   | true =>
    apply KE<;>intro h0
    ·refine KF (fun g0 h1 => ?_)
     refine KF (fun g1 h2 => ?_)
     have r:cn (bi q0 v5_0 v5_1 v5_2 v5_3 v5_4 false true v17 v18 v19) .normal (bi q0 v5_0 v5_1 v5_2 v5_3 v5_4 false true v17 v18 (inc v19)):=RP [.b true,.row (etI g0),.row (GState.t g1),.ret [(false,[tB (d8 g1)])]] (AC h0<|AG etI h1<|AR GState.t h2<|AD (oY g1)<|AN);exact (ih false true (inc v19)).mono fun y hy=>by cases y<;>exact KC r hy
    ·exact KB (KD (show cn (bi q0 v5_0 v5_1 v5_2 v5_3 v5_4 false true v17 v18 v19) (.exit 0) (cV q0 false true) from RP [.b false] (AC h0<|AN)) (by intro h;cases h))
   | false =>
    apply KE<;>intro h0
    ·refine KF (fun g0 h1 => ?_)
     refine KF (fun g1 h2 => ?_)
     have r:cn (bi q0 v5_0 v5_1 v5_2 v5_3 v5_4 false false v17 v18 v19) .normal (bi q0 v5_0 v5_1 v5_2 v5_3 v5_4 false (d8 g1) v17 v18 (inc v19)):=RP [.b true,.row (etI g0),.row (GState.t g1),.ret [(false,[tB (d8 g1)])]] (AC h0<|AG etI h1<|AR GState.t h2<|AD (oY g1)<|AN);exact (ih false (d8 g1) (inc v19)).mono fun y hy=>by cases y<;>exact KC r hy
    ·exact KB (KD (show cn (bi q0 v5_0 v5_1 v5_2 v5_3 v5_4 false false v17 v18 v19) (.exit 0) (cV q0 false false) from RP [.b false] (AC h0<|AN)) (by intro h;cases h))
noncomputable def gk (x0:GDag) (x1:GRun) (x2:Int):Option (Bool×Bool) :=
  if ak.sm x0 then if aP x0=true then if 0≤x2∧x2<(x0.f5.length:Int) then (bI x1.f3 (ups x0 x2) ((ups x0 x2).length:Int) 9223372036854775808 true false (0:Int)).bind fun y=>match y with
   | .x0 w0_10 w0_11=>(some (w0_10,w0_11)) else none else none else none
theorem tt {q0:Kd} (x0:GDag) (x1:GRun) (x2:Int):Ans (gk x0 x1 x2) (fun r=>Does E 63 [.agg (GDag.t .far q0 x0),.agg (GRun.t .far x1),.one (tI x2),.fni 84 []] [(false,[tB r.1]),(false,[tB r.2])]):=by
 unfold gk
 refine KG (fun h0 => ?_)
 refine KG (fun h1 => ?_)
 refine KG (fun h2 => ?_)
 refine KF (fun y hy => ?_)
 replace hy:=sA (q0:=q0) x1.f0 x1.f1.f0 x1.f1.f1 x1.f2 x1.f3 (ups x0 x2) ((ups x0 x2).length:Int) 9223372036854775808 true false (0:Int) y hy
 cases y with
 | x0 w0_10 w0_11 =>
  have h3:=hy
  exact KB (DP Tryz.f63 [.ret [(false,[.s .own () 1 ((ups x0 x2).map etI)])],.val (.int .i64 ((ups x0 x2).length:Int)),.lp (.exit 0) (cV q0 w0_10 w0_11)] (AV (ψ:=fun k=>E.C k 85 [.agg (GDag.t .far q0 x0),.one (tI x2)]=some [(false,[.s .own () 1 ((ups x0 x2).map etI)])]) (DI x0 x2 h0 h1 h2)<|ALn (ups x0 x2) etI<|AL h3<|AN))
def og (p:GState→Bool) (ts:List GState) (l:List Int):Bool:=l.all fun u=>match aq ts u with | some x=>p x | none=>false
def mG (p:GState→Bool) (ts:List GState) (l:List Int):Bool:=l.any fun u=>match aq ts u with | some x=>p x | none=>false
noncomputable def Hb (p:GState→Bool) (d:GDag) (r:GRun) (i:Int):Bool×Bool:=(og p r.f3 (ups d i),mG p r.f3 (ups d i))
noncomputable def aF (d:GDag) (r:GRun) (i:Int):Bool×Bool:=Hb dj d r i
noncomputable def bR (d:GDag) (r:GRun) (i:Int):Bool×Bool:=Hb d8 d r i
noncomputable def an (d:GDag) (r:GRun) (i:Int):Bool×Bool:=((aF d r i).1,(bR d r i).2)
theorem yZ (ts:List GState) (aG:List Int) (hf:∀ x∈aG,0≤x∧x<(ts.length:Int)) (hl:aG.length≤1000):∀ (m k n:Nat) (a b:Bool),k+m=aG.length→m<n →
  da ts aG n a b (k:Int)=some (.x0 (a&&og dj ts (aG.drop k)) (b || mG d8 ts (aG.drop k))) ∧
  bC ts aG (aG.length:Int) n a b (k:Int)=some (.x0 (a&&og dj ts (aG.drop k)) (b || mG dj ts (aG.drop k))) ∧
  bI ts aG (aG.length:Int) n a b (k:Int)=some (.x0 (a&&og d8 ts (aG.drop k)) (b || mG d8 ts (aG.drop k)))
 | m,k,0,a,b,_,hn=>by omega
 | 0,k,n+1,a,b,hk,hn=>by
  have hd:aG.drop k=[]:=List.drop_eq_nil_of_le (by omega)
  have hc:decide ((k:Int)<(aG.length:Int))=false:=decide_eq_false (by omega)
  rw [hd]
  unfold da bC bI
  rw [hc]
  cases a<;>cases b<;>exact ⟨rfl,rfl,rfl⟩
 | m+1,k,n+1,a,b,hk,hn=>by
  have hkl:k<aG.length:=by omega
  have hd:aG.drop k=aG[k]::aG.drop (k+1):=List.drop_eq_getElem_cons hkl
  have hc:decide ((k:Int)<(aG.length:Int))=true:=decide_eq_true (by omega)
  have hg:aq aG (k:Int)=some aG[k]:=by rw [ex];exact List.getElem?_eq_getElem hkl
  obtain ⟨x,hx,_⟩:=eY (hf aG[k] (List.getElem_mem _))
  have e:inc (k:Int)=((k+1:Nat):Int):=by rw [m8 _ (by omega) (by omega)];omega
  have ih:=fun a b=>yZ ts aG hf hl m (k+1) n a b (by omega) (by omega)
  have ha:∀ p,og p ts (aG.drop k)=(p x&&og p ts (aG.drop (k+1))):=fun p=>by rw [hd];unfold og;rw [List.all_cons,hx]
  have hs:∀ p,mG p ts (aG.drop k)=(p x || mG p ts (aG.drop (k+1))):=fun p=>by rw [hd];unfold mG;rw [List.any_cons,hx]
  rw [ha,ha,hs,hs]
  have d1:dj x=(x.f0==2):=rfl
  have d2:d8 x=(x.f0==3 || x.f0==4):=rfl
  unfold da bC bI
  cases a<;>cases b<;>simp only [hc,hg,hx,e,Option.bind_some,cond_true,(ih _ _).1,(ih _ _).2.1,(ih _ _).2.2,d1,d2]<;>cases x.f0==2<;>cases x.f0==3<;>cases x.f0==4<;>simp
theorem Cp (d:GDag) (r:GRun) (i:Int) (h:ak.sm d) (hd:aP d=true) (hl:r.f3.length=d.f5.length) (hi:0≤i∧i<(d.f5.length:Int)) :
  nW d r i=some (an d r i)∧fO d r i=some (aF d r i)∧gk d r i=some (bR d r i):=by
 obtain ⟨u1,u2⟩:=Jn hd hi
 obtain ⟨a1,a2,a3⟩:=yZ r.f3 (ups d i) (fun x hx=>by rw [hl];exact u1 x hx) (by omega) (ups d i).length 0 9223372036854775808 true false (by omega) (by omega)
 rw [List.drop_zero,Bool.true_and,Bool.false_or] at a1 a2 a3
 unfold nW fO gk
 refine ⟨?_,?_,?_⟩
 ·rw [if_pos h,if_pos hd,if_pos hi];exact (congrArg (Option.bind · _) a1).trans rfl
 ·rw [if_pos h,if_pos hd,if_pos hi];exact (congrArg (Option.bind · _) a2).trans rfl
 ·rw [if_pos h,if_pos hd,if_pos hi];exact (congrArg (Option.bind · _) a3).trans rfl
theorem aQ {q0:Kd} (x0:GDag) (x1:GRun) (x2:Int) (h:ak.sm x0) (hd:aP x0=true) (hl:x1.f3.length=x0.f5.length) (hi:0≤x2∧x2<(x0.f5.length:Int)):Does E 60 [.agg (GDag.t .far q0 x0),.agg (GRun.t .far x1),.one (tI x2)] [(false,[tB ((an x0 x1 x2).1)]),(false,[tB ((an x0 x1 x2).2)])]:=by
 exact Fz x0 x1 x2 _ (Cp x0 x1 x2 h hd hl hi).1
theorem bg {q0:Kd} (x0:GDag) (x1:GRun) (x2:Int) (h:ak.sm x0) (hd:aP x0=true) (hl:x1.f3.length=x0.f5.length) (hi:0≤x2∧x2<(x0.f5.length:Int)):Does E 63 [.agg (GDag.t .far q0 x0),.agg (GRun.t .far x1),.one (tI x2),.fni 64 []] [(false,[tB ((aF x0 x1 x2).1)]),(false,[tB ((aF x0 x1 x2).2)])]:=by
 exact sC x0 x1 x2 _ (Cp x0 x1 x2 h hd hl hi).2.1
theorem eI {q0:Kd} (x0:GDag) (x1:GRun) (x2:Int) (h:ak.sm x0) (hd:aP x0=true) (hl:x1.f3.length=x0.f5.length) (hi:0≤x2∧x2<(x0.f5.length:Int)):Does E 63 [.agg (GDag.t .far q0 x0),.agg (GRun.t .far x1),.one (tI x2),.fni 84 []] [(false,[tB ((bR x0 x1 x2).1)]),(false,[tB ((bR x0 x1 x2).2)])]:=by
 exact tt x0 x1 x2 _ (Cp x0 x1 x2 h hd hl hi).2.2
noncomputable def mO (x0:GDag) (x1:GRun) (x2:Int):Option (Bool) :=
  (aq x1.f3 x2).bind fun g0=>cond (ag g0.f0 (0:Int) (4:Int))
   ((aq x0.f5 x2).bind fun g1=>cond (ag g0.f1 (0:Int) (inc g1.f2))
    (cond (ag g0.f3 (0:Int) (68374179:Int))
     (cond (ag g0.f2 (0:Int) (1000000000:Int))
      (cond (!((decide (g0.f2>(0:Int)))==(g0.f0==(1:Int))))
       (some (false))
       (if ak.sm x0 then if aP x0=true then if x1.f3.length=x0.f5.length then if 0≤x2∧x2<(x0.f5.length:Int) then cond (g0.f0==(1:Int))
        (some ((aF x0 x1 x2).1))
        (cond (g0.f0==(2:Int))
         (some ((aF x0 x1 x2).1))
         (cond (g0.f0==(4:Int))
          (some ((bR x0 x1 x2).2))
          (cond (g0.f0==(0:Int))
           (some (!((bR x0 x1 x2).2)))
           (some (true))))) else none else none else none else none))
      (some (false)))
     (some (false)))
    (some (false)))
   (some (false))
theorem C7 {q0:Kd} (x0:GDag) (x1:GRun) (x2:Int):Ans (mO x0 x1 x2) (fun r=>Does E 62 [.agg (GDag.t .far q0 x0),.agg (GRun.t .far x1),.one (tI x2)] [(false,[tB r])]):=by
 unfold mO
 refine KF (fun g0 h0 => ?_)
 apply KE<;>intro h1
 ·refine KF (fun g1 h2 => ?_)
  apply KE<;>intro h3
  ·apply KE<;>intro h4
   ·apply KE<;>intro h5
    ·apply KE<;>intro h6
     ·exact KB (DP Tryz.f62 [.row (GState.t g0),rT,.row ((GTask.t q0) g1),rT,rT,rT,.no,.no,.b true] (AR GState.t h0<|AD (KJ (ax g0.f0 (0:Int) (4:Int)) h1)<|AR (GTask.t q0) h2<|AD (KJ (ax g0.f1 (0:Int) (inc g1.f2)) h3)<|AD (KJ (ax g0.f3 (0:Int) (68374179:Int)) h4)<|AD (KJ (ax g0.f2 (0:Int) (1000000000:Int)) h5)<|AC h6<|AN))
     ·refine KG (fun h7 => ?_)
      refine KG (fun h8 => ?_)
      refine KG (fun h9 => ?_)
      refine KG (fun h10 => ?_)
      apply KE<;>intro h11
      ·exact KB (DP Tryz.f62 [.row (GState.t g0),rT,.row ((GTask.t q0) g1),rT,rT,rT,.no,.no,.b false,.ret [(false,[tB ((aF x0 x1 x2).1)]),(false,[tB ((aF x0 x1 x2).2)])],.ret [(false,[tB ((bR x0 x1 x2).1)]),(false,[tB ((bR x0 x1 x2).2)])],.b true] (AR GState.t h0<|AD (KJ (ax g0.f0 (0:Int) (4:Int)) h1)<|AR (GTask.t q0) h2<|AD (KJ (ax g0.f1 (0:Int) (inc g1.f2)) h3)<|AD (KJ (ax g0.f3 (0:Int) (68374179:Int)) h4)<|AD (KJ (ax g0.f2 (0:Int) (1000000000:Int)) h5)<|AC h6<|AV (ψ:=fun k=>E.C k 63 [.agg (GDag.t .far q0 x0),.agg (GRun.t .far x1),.one (tI x2),.fni 64 []]=some [(false,[tB ((aF x0 x1 x2).1)]),(false,[tB ((aF x0 x1 x2).2)])]) (bg x0 x1 x2 h7 h8 h9 h10)<|AV (ψ:=fun k=>E.C k 63 [.agg (GDag.t .far q0 x0),.agg (GRun.t .far x1),.one (tI x2),.fni 84 []]=some [(false,[tB ((bR x0 x1 x2).1)]),(false,[tB ((bR x0 x1 x2).2)])]) (eI x0 x1 x2 h7 h8 h9 h10)<|AC h11<|AN))
      ·apply KE<;>intro h12
       ·exact KB (DP Tryz.f62 [.row (GState.t g0),rT,.row ((GTask.t q0) g1),rT,rT,rT,.no,.no,.b false,.ret [(false,[tB ((aF x0 x1 x2).1)]),(false,[tB ((aF x0 x1 x2).2)])],.ret [(false,[tB ((bR x0 x1 x2).1)]),(false,[tB ((bR x0 x1 x2).2)])],.b false,.b true] (AR GState.t h0<|AD (KJ (ax g0.f0 (0:Int) (4:Int)) h1)<|AR (GTask.t q0) h2<|AD (KJ (ax g0.f1 (0:Int) (inc g1.f2)) h3)<|AD (KJ (ax g0.f3 (0:Int) (68374179:Int)) h4)<|AD (KJ (ax g0.f2 (0:Int) (1000000000:Int)) h5)<|AC h6<|AV (ψ:=fun k=>E.C k 63 [.agg (GDag.t .far q0 x0),.agg (GRun.t .far x1),.one (tI x2),.fni 64 []]=some [(false,[tB ((aF x0 x1 x2).1)]),(false,[tB ((aF x0 x1 x2).2)])]) (bg x0 x1 x2 h7 h8 h9 h10)<|AV (ψ:=fun k=>E.C k 63 [.agg (GDag.t .far q0 x0),.agg (GRun.t .far x1),.one (tI x2),.fni 84 []]=some [(false,[tB ((bR x0 x1 x2).1)]),(false,[tB ((bR x0 x1 x2).2)])]) (eI x0 x1 x2 h7 h8 h9 h10)<|AC h11<|AC h12<|AN))
       ·apply KE<;>intro h13
        ·exact KB (DP Tryz.f62 [.row (GState.t g0),rT,.row ((GTask.t q0) g1),rT,rT,rT,.no,.no,.b false,.ret [(false,[tB ((aF x0 x1 x2).1)]),(false,[tB ((aF x0 x1 x2).2)])],.ret [(false,[tB ((bR x0 x1 x2).1)]),(false,[tB ((bR x0 x1 x2).2)])],.b false,.b false,.b true] (AR GState.t h0<|AD (KJ (ax g0.f0 (0:Int) (4:Int)) h1)<|AR (GTask.t q0) h2<|AD (KJ (ax g0.f1 (0:Int) (inc g1.f2)) h3)<|AD (KJ (ax g0.f3 (0:Int) (68374179:Int)) h4)<|AD (KJ (ax g0.f2 (0:Int) (1000000000:Int)) h5)<|AC h6<|AV (ψ:=fun k=>E.C k 63 [.agg (GDag.t .far q0 x0),.agg (GRun.t .far x1),.one (tI x2),.fni 64 []]=some [(false,[tB ((aF x0 x1 x2).1)]),(false,[tB ((aF x0 x1 x2).2)])]) (bg x0 x1 x2 h7 h8 h9 h10)<|AV (ψ:=fun k=>E.C k 63 [.agg (GDag.t .far q0 x0),.agg (GRun.t .far x1),.one (tI x2),.fni 84 []]=some [(false,[tB ((bR x0 x1 x2).1)]),(false,[tB ((bR x0 x1 x2).2)])]) (eI x0 x1 x2 h7 h8 h9 h10)<|AC h11<|AC h12<|AC h13<|AN))
        ·apply KE<;>intro h14
         ·exact KB (DP Tryz.f62 [.row (GState.t g0),rT,.row ((GTask.t q0) g1),rT,rT,rT,.no,.no,.b false,.ret [(false,[tB ((aF x0 x1 x2).1)]),(false,[tB ((aF x0 x1 x2).2)])],.ret [(false,[tB ((bR x0 x1 x2).1)]),(false,[tB ((bR x0 x1 x2).2)])],.b false,.b false,.b false,.b true] (AR GState.t h0<|AD (KJ (ax g0.f0 (0:Int) (4:Int)) h1)<|AR (GTask.t q0) h2<|AD (KJ (ax g0.f1 (0:Int) (inc g1.f2)) h3)<|AD (KJ (ax g0.f3 (0:Int) (68374179:Int)) h4)<|AD (KJ (ax g0.f2 (0:Int) (1000000000:Int)) h5)<|AC h6<|AV (ψ:=fun k=>E.C k 63 [.agg (GDag.t .far q0 x0),.agg (GRun.t .far x1),.one (tI x2),.fni 64 []]=some [(false,[tB ((aF x0 x1 x2).1)]),(false,[tB ((aF x0 x1 x2).2)])]) (bg x0 x1 x2 h7 h8 h9 h10)<|AV (ψ:=fun k=>E.C k 63 [.agg (GDag.t .far q0 x0),.agg (GRun.t .far x1),.one (tI x2),.fni 84 []]=some [(false,[tB ((bR x0 x1 x2).1)]),(false,[tB ((bR x0 x1 x2).2)])]) (eI x0 x1 x2 h7 h8 h9 h10)<|AC h11<|AC h12<|AC h13<|AC h14<|AN))
         ·exact KB (DP Tryz.f62 [.row (GState.t g0),rT,.row ((GTask.t q0) g1),rT,rT,rT,.no,.no,.b false,.ret [(false,[tB ((aF x0 x1 x2).1)]),(false,[tB ((aF x0 x1 x2).2)])],.ret [(false,[tB ((bR x0 x1 x2).1)]),(false,[tB ((bR x0 x1 x2).2)])],.b false,.b false,.b false,.b false] (AR GState.t h0<|AD (KJ (ax g0.f0 (0:Int) (4:Int)) h1)<|AR (GTask.t q0) h2<|AD (KJ (ax g0.f1 (0:Int) (inc g1.f2)) h3)<|AD (KJ (ax g0.f3 (0:Int) (68374179:Int)) h4)<|AD (KJ (ax g0.f2 (0:Int) (1000000000:Int)) h5)<|AC h6<|AV (ψ:=fun k=>E.C k 63 [.agg (GDag.t .far q0 x0),.agg (GRun.t .far x1),.one (tI x2),.fni 64 []]=some [(false,[tB ((aF x0 x1 x2).1)]),(false,[tB ((aF x0 x1 x2).2)])]) (bg x0 x1 x2 h7 h8 h9 h10)<|AV (ψ:=fun k=>E.C k 63 [.agg (GDag.t .far q0 x0),.agg (GRun.t .far x1),.one (tI x2),.fni 84 []]=some [(false,[tB ((bR x0 x1 x2).1)]),(false,[tB ((bR x0 x1 x2).2)])]) (eI x0 x1 x2 h7 h8 h9 h10)<|AC h11<|AC h12<|AC h13<|AC h14<|AN))
    ·exact KB (DP Tryz.f62 [.row (GState.t g0),rT,.row ((GTask.t q0) g1),rT,rT,rF] (AR GState.t h0<|AD (KJ (ax g0.f0 (0:Int) (4:Int)) h1)<|AR (GTask.t q0) h2<|AD (KJ (ax g0.f1 (0:Int) (inc g1.f2)) h3)<|AD (KJ (ax g0.f3 (0:Int) (68374179:Int)) h4)<|AD (KJ (ax g0.f2 (0:Int) (1000000000:Int)) h5)<|AN))
   ·exact KB (DP Tryz.f62 [.row (GState.t g0),rT,.row ((GTask.t q0) g1),rT,rF] (AR GState.t h0<|AD (KJ (ax g0.f0 (0:Int) (4:Int)) h1)<|AR (GTask.t q0) h2<|AD (KJ (ax g0.f1 (0:Int) (inc g1.f2)) h3)<|AD (KJ (ax g0.f3 (0:Int) (68374179:Int)) h4)<|AN))
  ·exact KB (DP Tryz.f62 [.row (GState.t g0),rT,.row ((GTask.t q0) g1),rF] (AR GState.t h0<|AD (KJ (ax g0.f0 (0:Int) (4:Int)) h1)<|AR (GTask.t q0) h2<|AD (KJ (ax g0.f1 (0:Int) (inc g1.f2)) h3)<|AN))
 ·exact KB (DP Tryz.f62 [.row (GState.t g0),rF] (AR GState.t h0<|AD (KJ (ax g0.f0 (0:Int) (4:Int)) h1)<|AN))
inductive u6 where
 | ret (v4:Bool)
 | x0 
def ao (q0:Kd) (v2_0 v2_1:ByteArray) (v2_2 v2_3:Int) (v2_4:Bool) (v2_5:List GTask) (v3_0:ByteArray) (v3_1 v3_2 v3_3:Int) (v3_4:List GState) (v5:Int):US:=stL 121 [(2,.box () [tS v2_0,tS v2_1,tI v2_2,tI v2_3,tB v2_4,.s .far () 5 (v2_5.map (GTask.t q0))]),(3,.box () [tS v3_0,tI v3_1,tI v3_2,tI v3_3,.s .far () 4 (v3_4.map GState.t)]),(5,.one (tI v5))]
def aC (q0:Kd) (zv4:Bool):US:=stL 121 [(4,.one (tB zv4))]
def kG (q0:Kd)  : US:=stL 121 []
abbrev aw:US→Exit→US→Prop:=Round E 36 (az Tryz.f36 0)
def Dz {q0:Kd} (v2_0 v2_1:ByteArray) (v2_2 v2_3:Int) (v2_4:Bool) (v2_5:List GTask) (v3_0:ByteArray) (v3_1 v3_2 v3_3:Int) (v3_4:List GState) (v5:Int):u6→Prop
 | .ret zv4=>Loops E 36 (az Tryz.f36 0) (ao q0 v2_0 v2_1 v2_2 v2_3 v2_4 v2_5 v3_0 v3_1 v3_2 v3_3 v3_4 v5) .ret (aC q0 zv4)
 | .x0=>Loops E 36 (az Tryz.f36 0) (ao q0 v2_0 v2_1 v2_2 v2_3 v2_4 v2_5 v3_0 v3_1 v3_2 v3_3 v3_4 v5) (.exit 0) (kG q0)
theorem zK {q0:Kd} (v2_0 v2_1:ByteArray) (v2_2 v2_3:Int) (v2_4:Bool) (v2_5:List GTask) (v3_0:ByteArray) (v3_1 v3_2 v3_3:Int) (v3_4:List GState) (v5:Int) (g0:GState) (g1:GTask) (h0:(decide (v5<(v3_4.length:Int)))=true) (h1:aq v3_4 v5=some g0) (h2:(ag g0.f0 (0:Int) (4:Int))=true) (h3:aq v2_5 v5=some g1) (h4:(ag g0.f1 (0:Int) (inc g1.f2))=true) (h5:(ag g0.f2 (0:Int) (1000000000:Int))=true) (h6:(!((decide (g0.f2>(0:Int)))==(g0.f0==(1:Int))))=true):aw (ao q0 v2_0 v2_1 v2_2 v2_3 v2_4 v2_5 v3_0 v3_1 v3_2 v3_3 v3_4 v5) .ret (aC q0 false) :=
 RP [.val (.int .i64 (v3_4.length:Int)),.b true,.row (GState.t g0),rT,.row ((GTask.t q0) g1),rT,rT,.no,.no,.b true] (ALn v3_4 GState.t<|AC h0<|AR GState.t h1<|AD (KJ (ah g0.f0 (0:Int) (4:Int)) h2)<|AR (GTask.t q0) h3<|AD (KJ (ah g0.f1 (0:Int) (inc g1.f2)) h4)<|AD (KJ (ah g0.f2 (0:Int) (1000000000:Int)) h5)<|AC h6<|AN)
theorem zL {q0:Kd} (v2_0 v2_1:ByteArray) (v2_2 v2_3:Int) (v2_4:Bool) (v2_5:List GTask) (v3_0:ByteArray) (v3_1 v3_2 v3_3:Int) (v3_4:List GState) (v5:Int) (g0:GState) (g1:GTask) (h0:(decide (v5<(v3_4.length:Int)))=true) (h1:aq v3_4 v5=some g0) (h2:(ag g0.f0 (0:Int) (4:Int))=true) (h3:aq v2_5 v5=some g1) (h4:(ag g0.f1 (0:Int) (inc g1.f2))=true) (h5:(ag g0.f2 (0:Int) (1000000000:Int))=true) (h6:(!((decide (g0.f2>(0:Int)))==(g0.f0==(1:Int))))=false) (h7:(ag g0.f3 (0:Int) (68374179:Int))=true) (h8:ak.sm (GDag.mk v2_0 v2_1 v2_2 v2_3 v2_4 v2_5)) (h9:aP (GDag.mk v2_0 v2_1 v2_2 v2_3 v2_4 v2_5)=true) (h10:(GRun.mk v3_0 (GSpan.mk v3_1 v3_2) v3_3 v3_4).f3.length=(GDag.mk v2_0 v2_1 v2_2 v2_3 v2_4 v2_5).f5.length) (h11:0≤v5∧v5<((GDag.mk v2_0 v2_1 v2_2 v2_3 v2_4 v2_5).f5.length:Int)) (h12:((an (GDag.mk v2_0 v2_1 v2_2 v2_3 v2_4 v2_5) (GRun.mk v3_0 (GSpan.mk v3_1 v3_2) v3_3 v3_4) v5).1)=true) (h13:((an (GDag.mk v2_0 v2_1 v2_2 v2_3 v2_4 v2_5) (GRun.mk v3_0 (GSpan.mk v3_1 v3_2) v3_3 v3_4) v5).2)=true) (h14:(g0.f0==(1:Int))=true) (h15:(g0.f0==(4:Int))=true) (h16:(g0.f0==(0:Int))=true):aw (ao q0 v2_0 v2_1 v2_2 v2_3 v2_4 v2_5 v3_0 v3_1 v3_2 v3_3 v3_4 v5) .ret (aC q0 false) :=
 RP [.val (.int .i64 (v3_4.length:Int)),.b true,.row (GState.t g0),rT,.row ((GTask.t q0) g1),rT,rT,.no,.no,.b false,rT,.ret [(false,[tB true]),(false,[tB true])],.b true,.b true,.b true] (ALn v3_4 GState.t<|AC h0<|AR GState.t h1<|AD (KJ (ah g0.f0 (0:Int) (4:Int)) h2)<|AR (GTask.t q0) h3<|AD (KJ (ah g0.f1 (0:Int) (inc g1.f2)) h4)<|AD (KJ (ah g0.f2 (0:Int) (1000000000:Int)) h5)<|AC h6<|AD (KJ (ah g0.f3 (0:Int) (68374179:Int)) h7)<|AV (ψ:=fun k=>E.C k 60 [.agg (GDag.t .far q0 (GDag.mk v2_0 v2_1 v2_2 v2_3 v2_4 v2_5)),.agg (GRun.t .far (GRun.mk v3_0 (GSpan.mk v3_1 v3_2) v3_3 v3_4)),.one (tI v5)]=some [(false,[tB true]),(false,[tB true])]) (KH (aQ (GDag.mk v2_0 v2_1 v2_2 v2_3 v2_4 v2_5) (GRun.mk v3_0 (GSpan.mk v3_1 v3_2) v3_3 v3_4) v5 h8 h9 h10 h11) (by rw [h12,h13]))<|AC h14<|AC h15<|AC h16<|AN)
theorem zM {q0:Kd} (v2_0 v2_1:ByteArray) (v2_2 v2_3:Int) (v2_4:Bool) (v2_5:List GTask) (v3_0:ByteArray) (v3_1 v3_2 v3_3:Int) (v3_4:List GState) (v5:Int) (g0:GState) (g1:GTask) (h0:(decide (v5<(v3_4.length:Int)))=true) (h1:aq v3_4 v5=some g0) (h2:(ag g0.f0 (0:Int) (4:Int))=true) (h3:aq v2_5 v5=some g1) (h4:(ag g0.f1 (0:Int) (inc g1.f2))=true) (h5:(ag g0.f2 (0:Int) (1000000000:Int))=true) (h6:(!((decide (g0.f2>(0:Int)))==(g0.f0==(1:Int))))=false) (h7:(ag g0.f3 (0:Int) (68374179:Int))=true) (h8:ak.sm (GDag.mk v2_0 v2_1 v2_2 v2_3 v2_4 v2_5)) (h9:aP (GDag.mk v2_0 v2_1 v2_2 v2_3 v2_4 v2_5)=true) (h10:(GRun.mk v3_0 (GSpan.mk v3_1 v3_2) v3_3 v3_4).f3.length=(GDag.mk v2_0 v2_1 v2_2 v2_3 v2_4 v2_5).f5.length) (h11:0≤v5∧v5<((GDag.mk v2_0 v2_1 v2_2 v2_3 v2_4 v2_5).f5.length:Int)) (h12:((an (GDag.mk v2_0 v2_1 v2_2 v2_3 v2_4 v2_5) (GRun.mk v3_0 (GSpan.mk v3_1 v3_2) v3_3 v3_4) v5).1)=true) (h13:((an (GDag.mk v2_0 v2_1 v2_2 v2_3 v2_4 v2_5) (GRun.mk v3_0 (GSpan.mk v3_1 v3_2) v3_3 v3_4) v5).2)=true) (h14:(g0.f0==(1:Int))=true) (h15:(g0.f0==(4:Int))=true) (h16:(g0.f0==(0:Int))=false):aw (ao q0 v2_0 v2_1 v2_2 v2_3 v2_4 v2_5 v3_0 v3_1 v3_2 v3_3 v3_4 v5) .normal (ao q0 v2_0 v2_1 v2_2 v2_3 v2_4 v2_5 v3_0 v3_1 v3_2 v3_3 v3_4 (inc v5)) :=
 RP [.val (.int .i64 (v3_4.length:Int)),.b true,.row (GState.t g0),rT,.row ((GTask.t q0) g1),rT,rT,.no,.no,.b false,rT,.ret [(false,[tB true]),(false,[tB true])],.b true,.b true,.b false] (ALn v3_4 GState.t<|AC h0<|AR GState.t h1<|AD (KJ (ah g0.f0 (0:Int) (4:Int)) h2)<|AR (GTask.t q0) h3<|AD (KJ (ah g0.f1 (0:Int) (inc g1.f2)) h4)<|AD (KJ (ah g0.f2 (0:Int) (1000000000:Int)) h5)<|AC h6<|AD (KJ (ah g0.f3 (0:Int) (68374179:Int)) h7)<|AV (ψ:=fun k=>E.C k 60 [.agg (GDag.t .far q0 (GDag.mk v2_0 v2_1 v2_2 v2_3 v2_4 v2_5)),.agg (GRun.t .far (GRun.mk v3_0 (GSpan.mk v3_1 v3_2) v3_3 v3_4)),.one (tI v5)]=some [(false,[tB true]),(false,[tB true])]) (KH (aQ (GDag.mk v2_0 v2_1 v2_2 v2_3 v2_4 v2_5) (GRun.mk v3_0 (GSpan.mk v3_1 v3_2) v3_3 v3_4) v5 h8 h9 h10 h11) (by rw [h12,h13]))<|AC h14<|AC h15<|AC h16<|AN)
theorem zN {q0:Kd} (v2_0 v2_1:ByteArray) (v2_2 v2_3:Int) (v2_4:Bool) (v2_5:List GTask) (v3_0:ByteArray) (v3_1 v3_2 v3_3:Int) (v3_4:List GState) (v5:Int) (g0:GState) (g1:GTask) (h0:(decide (v5<(v3_4.length:Int)))=true) (h1:aq v3_4 v5=some g0) (h2:(ag g0.f0 (0:Int) (4:Int))=true) (h3:aq v2_5 v5=some g1) (h4:(ag g0.f1 (0:Int) (inc g1.f2))=true) (h5:(ag g0.f2 (0:Int) (1000000000:Int))=true) (h6:(!((decide (g0.f2>(0:Int)))==(g0.f0==(1:Int))))=false) (h7:(ag g0.f3 (0:Int) (68374179:Int))=true) (h8:ak.sm (GDag.mk v2_0 v2_1 v2_2 v2_3 v2_4 v2_5)) (h9:aP (GDag.mk v2_0 v2_1 v2_2 v2_3 v2_4 v2_5)=true) (h10:(GRun.mk v3_0 (GSpan.mk v3_1 v3_2) v3_3 v3_4).f3.length=(GDag.mk v2_0 v2_1 v2_2 v2_3 v2_4 v2_5).f5.length) (h11:0≤v5∧v5<((GDag.mk v2_0 v2_1 v2_2 v2_3 v2_4 v2_5).f5.length:Int)) (h12:((an (GDag.mk v2_0 v2_1 v2_2 v2_3 v2_4 v2_5) (GRun.mk v3_0 (GSpan.mk v3_1 v3_2) v3_3 v3_4) v5).1)=true) (h13:((an (GDag.mk v2_0 v2_1 v2_2 v2_3 v2_4 v2_5) (GRun.mk v3_0 (GSpan.mk v3_1 v3_2) v3_3 v3_4) v5).2)=false) (h14:(g0.f0==(1:Int))=true) (h15:(g0.f0==(4:Int))=true):aw (ao q0 v2_0 v2_1 v2_2 v2_3 v2_4 v2_5 v3_0 v3_1 v3_2 v3_3 v3_4 v5) .ret (aC q0 false) :=
 RP [.val (.int .i64 (v3_4.length:Int)),.b true,.row (GState.t g0),rT,.row ((GTask.t q0) g1),rT,rT,.no,.no,.b false,rT,.ret [(false,[tB true]),(false,[tB false])],.b true,.b true] (ALn v3_4 GState.t<|AC h0<|AR GState.t h1<|AD (KJ (ah g0.f0 (0:Int) (4:Int)) h2)<|AR (GTask.t q0) h3<|AD (KJ (ah g0.f1 (0:Int) (inc g1.f2)) h4)<|AD (KJ (ah g0.f2 (0:Int) (1000000000:Int)) h5)<|AC h6<|AD (KJ (ah g0.f3 (0:Int) (68374179:Int)) h7)<|AV (ψ:=fun k=>E.C k 60 [.agg (GDag.t .far q0 (GDag.mk v2_0 v2_1 v2_2 v2_3 v2_4 v2_5)),.agg (GRun.t .far (GRun.mk v3_0 (GSpan.mk v3_1 v3_2) v3_3 v3_4)),.one (tI v5)]=some [(false,[tB true]),(false,[tB false])]) (KH (aQ (GDag.mk v2_0 v2_1 v2_2 v2_3 v2_4 v2_5) (GRun.mk v3_0 (GSpan.mk v3_1 v3_2) v3_3 v3_4) v5 h8 h9 h10 h11) (by rw [h12,h13]))<|AC h14<|AC h15<|AN)
theorem zO {q0:Kd} (v2_0 v2_1:ByteArray) (v2_2 v2_3:Int) (v2_4:Bool) (v2_5:List GTask) (v3_0:ByteArray) (v3_1 v3_2 v3_3:Int) (v3_4:List GState) (v5:Int) (g0:GState) (g1:GTask) (h0:(decide (v5<(v3_4.length:Int)))=true) (h1:aq v3_4 v5=some g0) (h2:(ag g0.f0 (0:Int) (4:Int))=true) (h3:aq v2_5 v5=some g1) (h4:(ag g0.f1 (0:Int) (inc g1.f2))=true) (h5:(ag g0.f2 (0:Int) (1000000000:Int))=true) (h6:(!((decide (g0.f2>(0:Int)))==(g0.f0==(1:Int))))=false) (h7:(ag g0.f3 (0:Int) (68374179:Int))=true) (h8:ak.sm (GDag.mk v2_0 v2_1 v2_2 v2_3 v2_4 v2_5)) (h9:aP (GDag.mk v2_0 v2_1 v2_2 v2_3 v2_4 v2_5)=true) (h10:(GRun.mk v3_0 (GSpan.mk v3_1 v3_2) v3_3 v3_4).f3.length=(GDag.mk v2_0 v2_1 v2_2 v2_3 v2_4 v2_5).f5.length) (h11:0≤v5∧v5<((GDag.mk v2_0 v2_1 v2_2 v2_3 v2_4 v2_5).f5.length:Int)) (h12:((an (GDag.mk v2_0 v2_1 v2_2 v2_3 v2_4 v2_5) (GRun.mk v3_0 (GSpan.mk v3_1 v3_2) v3_3 v3_4) v5).1)=true) (h13:((an (GDag.mk v2_0 v2_1 v2_2 v2_3 v2_4 v2_5) (GRun.mk v3_0 (GSpan.mk v3_1 v3_2) v3_3 v3_4) v5).2)=true) (h14:(g0.f0==(1:Int))=true) (h15:(g0.f0==(4:Int))=false) (h16:(g0.f0==(0:Int))=true):aw (ao q0 v2_0 v2_1 v2_2 v2_3 v2_4 v2_5 v3_0 v3_1 v3_2 v3_3 v3_4 v5) .ret (aC q0 false) :=
 RP [.val (.int .i64 (v3_4.length:Int)),.b true,.row (GState.t g0),rT,.row ((GTask.t q0) g1),rT,rT,.no,.no,.b false,rT,.ret [(false,[tB true]),(false,[tB true])],.b true,.b false,.b true] (ALn v3_4 GState.t<|AC h0<|AR GState.t h1<|AD (KJ (ah g0.f0 (0:Int) (4:Int)) h2)<|AR (GTask.t q0) h3<|AD (KJ (ah g0.f1 (0:Int) (inc g1.f2)) h4)<|AD (KJ (ah g0.f2 (0:Int) (1000000000:Int)) h5)<|AC h6<|AD (KJ (ah g0.f3 (0:Int) (68374179:Int)) h7)<|AV (ψ:=fun k=>E.C k 60 [.agg (GDag.t .far q0 (GDag.mk v2_0 v2_1 v2_2 v2_3 v2_4 v2_5)),.agg (GRun.t .far (GRun.mk v3_0 (GSpan.mk v3_1 v3_2) v3_3 v3_4)),.one (tI v5)]=some [(false,[tB true]),(false,[tB true])]) (KH (aQ (GDag.mk v2_0 v2_1 v2_2 v2_3 v2_4 v2_5) (GRun.mk v3_0 (GSpan.mk v3_1 v3_2) v3_3 v3_4) v5 h8 h9 h10 h11) (by rw [h12,h13]))<|AC h14<|AC h15<|AC h16<|AN)
theorem zP {q0:Kd} (v2_0 v2_1:ByteArray) (v2_2 v2_3:Int) (v2_4:Bool) (v2_5:List GTask) (v3_0:ByteArray) (v3_1 v3_2 v3_3:Int) (v3_4:List GState) (v5:Int) (g0:GState) (g1:GTask) (h0:(decide (v5<(v3_4.length:Int)))=true) (h1:aq v3_4 v5=some g0) (h2:(ag g0.f0 (0:Int) (4:Int))=true) (h3:aq v2_5 v5=some g1) (h4:(ag g0.f1 (0:Int) (inc g1.f2))=true) (h5:(ag g0.f2 (0:Int) (1000000000:Int))=true) (h6:(!((decide (g0.f2>(0:Int)))==(g0.f0==(1:Int))))=false) (h7:(ag g0.f3 (0:Int) (68374179:Int))=true) (h8:ak.sm (GDag.mk v2_0 v2_1 v2_2 v2_3 v2_4 v2_5)) (h9:aP (GDag.mk v2_0 v2_1 v2_2 v2_3 v2_4 v2_5)=true) (h10:(GRun.mk v3_0 (GSpan.mk v3_1 v3_2) v3_3 v3_4).f3.length=(GDag.mk v2_0 v2_1 v2_2 v2_3 v2_4 v2_5).f5.length) (h11:0≤v5∧v5<((GDag.mk v2_0 v2_1 v2_2 v2_3 v2_4 v2_5).f5.length:Int)) (h12:((an (GDag.mk v2_0 v2_1 v2_2 v2_3 v2_4 v2_5) (GRun.mk v3_0 (GSpan.mk v3_1 v3_2) v3_3 v3_4) v5).1)=true) (h13:((an (GDag.mk v2_0 v2_1 v2_2 v2_3 v2_4 v2_5) (GRun.mk v3_0 (GSpan.mk v3_1 v3_2) v3_3 v3_4) v5).2)=false) (h14:(g0.f0==(1:Int))=true) (h15:(g0.f0==(4:Int))=false) (h16:(g0.f0==(0:Int))=true):aw (ao q0 v2_0 v2_1 v2_2 v2_3 v2_4 v2_5 v3_0 v3_1 v3_2 v3_3 v3_4 v5) .normal (ao q0 v2_0 v2_1 v2_2 v2_3 v2_4 v2_5 v3_0 v3_1 v3_2 v3_3 v3_4 (inc v5)) :=
 RP [.val (.int .i64 (v3_4.length:Int)),.b true,.row (GState.t g0),rT,.row ((GTask.t q0) g1),rT,rT,.no,.no,.b false,rT,.ret [(false,[tB true]),(false,[tB false])],.b true,.b false,.b true] (ALn v3_4 GState.t<|AC h0<|AR GState.t h1<|AD (KJ (ah g0.f0 (0:Int) (4:Int)) h2)<|AR (GTask.t q0) h3<|AD (KJ (ah g0.f1 (0:Int) (inc g1.f2)) h4)<|AD (KJ (ah g0.f2 (0:Int) (1000000000:Int)) h5)<|AC h6<|AD (KJ (ah g0.f3 (0:Int) (68374179:Int)) h7)<|AV (ψ:=fun k=>E.C k 60 [.agg (GDag.t .far q0 (GDag.mk v2_0 v2_1 v2_2 v2_3 v2_4 v2_5)),.agg (GRun.t .far (GRun.mk v3_0 (GSpan.mk v3_1 v3_2) v3_3 v3_4)),.one (tI v5)]=some [(false,[tB true]),(false,[tB false])]) (KH (aQ (GDag.mk v2_0 v2_1 v2_2 v2_3 v2_4 v2_5) (GRun.mk v3_0 (GSpan.mk v3_1 v3_2) v3_3 v3_4) v5 h8 h9 h10 h11) (by rw [h12,h13]))<|AC h14<|AC h15<|AC h16<|AN)
theorem zQ {q0:Kd} (v2_0 v2_1:ByteArray) (v2_2 v2_3:Int) (v2_4:Bool) (v2_5:List GTask) (v3_0:ByteArray) (v3_1 v3_2 v3_3:Int) (v3_4:List GState) (v5:Int) (g0:GState) (g1:GTask) (h0:(decide (v5<(v3_4.length:Int)))=true) (h1:aq v3_4 v5=some g0) (h2:(ag g0.f0 (0:Int) (4:Int))=true) (h3:aq v2_5 v5=some g1) (h4:(ag g0.f1 (0:Int) (inc g1.f2))=true) (h5:(ag g0.f2 (0:Int) (1000000000:Int))=true) (h6:(!((decide (g0.f2>(0:Int)))==(g0.f0==(1:Int))))=false) (h7:(ag g0.f3 (0:Int) (68374179:Int))=true) (h8:ak.sm (GDag.mk v2_0 v2_1 v2_2 v2_3 v2_4 v2_5)) (h9:aP (GDag.mk v2_0 v2_1 v2_2 v2_3 v2_4 v2_5)=true) (h10:(GRun.mk v3_0 (GSpan.mk v3_1 v3_2) v3_3 v3_4).f3.length=(GDag.mk v2_0 v2_1 v2_2 v2_3 v2_4 v2_5).f5.length) (h11:0≤v5∧v5<((GDag.mk v2_0 v2_1 v2_2 v2_3 v2_4 v2_5).f5.length:Int)) (h12:((an (GDag.mk v2_0 v2_1 v2_2 v2_3 v2_4 v2_5) (GRun.mk v3_0 (GSpan.mk v3_1 v3_2) v3_3 v3_4) v5).1)=true) (h13:(g0.f0==(1:Int))=true) (h14:(g0.f0==(4:Int))=false) (h15:(g0.f0==(0:Int))=false):aw (ao q0 v2_0 v2_1 v2_2 v2_3 v2_4 v2_5 v3_0 v3_1 v3_2 v3_3 v3_4 v5) .normal (ao q0 v2_0 v2_1 v2_2 v2_3 v2_4 v2_5 v3_0 v3_1 v3_2 v3_3 v3_4 (inc v5)) :=
 RP [.val (.int .i64 (v3_4.length:Int)),.b true,.row (GState.t g0),rT,.row ((GTask.t q0) g1),rT,rT,.no,.no,.b false,rT,.ret [(false,[tB true]),(false,[tB ((an (GDag.mk v2_0 v2_1 v2_2 v2_3 v2_4 v2_5) (GRun.mk v3_0 (GSpan.mk v3_1 v3_2) v3_3 v3_4) v5).2)])],.b true,.b false,.b false] (ALn v3_4 GState.t<|AC h0<|AR GState.t h1<|AD (KJ (ah g0.f0 (0:Int) (4:Int)) h2)<|AR (GTask.t q0) h3<|AD (KJ (ah g0.f1 (0:Int) (inc g1.f2)) h4)<|AD (KJ (ah g0.f2 (0:Int) (1000000000:Int)) h5)<|AC h6<|AD (KJ (ah g0.f3 (0:Int) (68374179:Int)) h7)<|AV (ψ:=fun k=>E.C k 60 [.agg (GDag.t .far q0 (GDag.mk v2_0 v2_1 v2_2 v2_3 v2_4 v2_5)),.agg (GRun.t .far (GRun.mk v3_0 (GSpan.mk v3_1 v3_2) v3_3 v3_4)),.one (tI v5)]=some [(false,[tB true]),(false,[tB ((an (GDag.mk v2_0 v2_1 v2_2 v2_3 v2_4 v2_5) (GRun.mk v3_0 (GSpan.mk v3_1 v3_2) v3_3 v3_4) v5).2)])]) (KH (aQ (GDag.mk v2_0 v2_1 v2_2 v2_3 v2_4 v2_5) (GRun.mk v3_0 (GSpan.mk v3_1 v3_2) v3_3 v3_4) v5 h8 h9 h10 h11) (by rw [h12]))<|AC h13<|AC h14<|AC h15<|AN)
theorem zR {q0:Kd} (v2_0 v2_1:ByteArray) (v2_2 v2_3:Int) (v2_4:Bool) (v2_5:List GTask) (v3_0:ByteArray) (v3_1 v3_2 v3_3:Int) (v3_4:List GState) (v5:Int) (g0:GState) (g1:GTask) (h0:(decide (v5<(v3_4.length:Int)))=true) (h1:aq v3_4 v5=some g0) (h2:(ag g0.f0 (0:Int) (4:Int))=true) (h3:aq v2_5 v5=some g1) (h4:(ag g0.f1 (0:Int) (inc g1.f2))=true) (h5:(ag g0.f2 (0:Int) (1000000000:Int))=true) (h6:(!((decide (g0.f2>(0:Int)))==(g0.f0==(1:Int))))=false) (h7:(ag g0.f3 (0:Int) (68374179:Int))=true) (h8:ak.sm (GDag.mk v2_0 v2_1 v2_2 v2_3 v2_4 v2_5)) (h9:aP (GDag.mk v2_0 v2_1 v2_2 v2_3 v2_4 v2_5)=true) (h10:(GRun.mk v3_0 (GSpan.mk v3_1 v3_2) v3_3 v3_4).f3.length=(GDag.mk v2_0 v2_1 v2_2 v2_3 v2_4 v2_5).f5.length) (h11:0≤v5∧v5<((GDag.mk v2_0 v2_1 v2_2 v2_3 v2_4 v2_5).f5.length:Int)) (h12:((an (GDag.mk v2_0 v2_1 v2_2 v2_3 v2_4 v2_5) (GRun.mk v3_0 (GSpan.mk v3_1 v3_2) v3_3 v3_4) v5).1)=false) (h13:(g0.f0==(1:Int))=true):aw (ao q0 v2_0 v2_1 v2_2 v2_3 v2_4 v2_5 v3_0 v3_1 v3_2 v3_3 v3_4 v5) .ret (aC q0 false) :=
 RP [.val (.int .i64 (v3_4.length:Int)),.b true,.row (GState.t g0),rT,.row ((GTask.t q0) g1),rT,rT,.no,.no,.b false,rT,.ret [(false,[tB false]),(false,[tB ((an (GDag.mk v2_0 v2_1 v2_2 v2_3 v2_4 v2_5) (GRun.mk v3_0 (GSpan.mk v3_1 v3_2) v3_3 v3_4) v5).2)])],.b true] (ALn v3_4 GState.t<|AC h0<|AR GState.t h1<|AD (KJ (ah g0.f0 (0:Int) (4:Int)) h2)<|AR (GTask.t q0) h3<|AD (KJ (ah g0.f1 (0:Int) (inc g1.f2)) h4)<|AD (KJ (ah g0.f2 (0:Int) (1000000000:Int)) h5)<|AC h6<|AD (KJ (ah g0.f3 (0:Int) (68374179:Int)) h7)<|AV (ψ:=fun k=>E.C k 60 [.agg (GDag.t .far q0 (GDag.mk v2_0 v2_1 v2_2 v2_3 v2_4 v2_5)),.agg (GRun.t .far (GRun.mk v3_0 (GSpan.mk v3_1 v3_2) v3_3 v3_4)),.one (tI v5)]=some [(false,[tB false]),(false,[tB ((an (GDag.mk v2_0 v2_1 v2_2 v2_3 v2_4 v2_5) (GRun.mk v3_0 (GSpan.mk v3_1 v3_2) v3_3 v3_4) v5).2)])]) (KH (aQ (GDag.mk v2_0 v2_1 v2_2 v2_3 v2_4 v2_5) (GRun.mk v3_0 (GSpan.mk v3_1 v3_2) v3_3 v3_4) v5 h8 h9 h10 h11) (by rw [h12]))<|AC h13<|AN)
theorem zS {q0:Kd} (v2_0 v2_1:ByteArray) (v2_2 v2_3:Int) (v2_4:Bool) (v2_5:List GTask) (v3_0:ByteArray) (v3_1 v3_2 v3_3:Int) (v3_4:List GState) (v5:Int) (g0:GState) (g1:GTask) (h0:(decide (v5<(v3_4.length:Int)))=true) (h1:aq v3_4 v5=some g0) (h2:(ag g0.f0 (0:Int) (4:Int))=true) (h3:aq v2_5 v5=some g1) (h4:(ag g0.f1 (0:Int) (inc g1.f2))=true) (h5:(ag g0.f2 (0:Int) (1000000000:Int))=true) (h6:(!((decide (g0.f2>(0:Int)))==(g0.f0==(1:Int))))=false) (h7:(ag g0.f3 (0:Int) (68374179:Int))=true) (h8:ak.sm (GDag.mk v2_0 v2_1 v2_2 v2_3 v2_4 v2_5)) (h9:aP (GDag.mk v2_0 v2_1 v2_2 v2_3 v2_4 v2_5)=true) (h10:(GRun.mk v3_0 (GSpan.mk v3_1 v3_2) v3_3 v3_4).f3.length=(GDag.mk v2_0 v2_1 v2_2 v2_3 v2_4 v2_5).f5.length) (h11:0≤v5∧v5<((GDag.mk v2_0 v2_1 v2_2 v2_3 v2_4 v2_5).f5.length:Int)) (h12:((an (GDag.mk v2_0 v2_1 v2_2 v2_3 v2_4 v2_5) (GRun.mk v3_0 (GSpan.mk v3_1 v3_2) v3_3 v3_4) v5).1)=true) (h13:((an (GDag.mk v2_0 v2_1 v2_2 v2_3 v2_4 v2_5) (GRun.mk v3_0 (GSpan.mk v3_1 v3_2) v3_3 v3_4) v5).2)=true) (h14:(g0.f0==(1:Int))=false) (h15:(g0.f0==(2:Int))=true) (h16:(g0.f0==(4:Int))=true) (h17:(g0.f0==(0:Int))=true):aw (ao q0 v2_0 v2_1 v2_2 v2_3 v2_4 v2_5 v3_0 v3_1 v3_2 v3_3 v3_4 v5) .ret (aC q0 false) :=
 RP [.val (.int .i64 (v3_4.length:Int)),.b true,.row (GState.t g0),rT,.row ((GTask.t q0) g1),rT,rT,.no,.no,.b false,rT,.ret [(false,[tB true]),(false,[tB true])],.b false,.b true,.b true,.b true] (ALn v3_4 GState.t<|AC h0<|AR GState.t h1<|AD (KJ (ah g0.f0 (0:Int) (4:Int)) h2)<|AR (GTask.t q0) h3<|AD (KJ (ah g0.f1 (0:Int) (inc g1.f2)) h4)<|AD (KJ (ah g0.f2 (0:Int) (1000000000:Int)) h5)<|AC h6<|AD (KJ (ah g0.f3 (0:Int) (68374179:Int)) h7)<|AV (ψ:=fun k=>E.C k 60 [.agg (GDag.t .far q0 (GDag.mk v2_0 v2_1 v2_2 v2_3 v2_4 v2_5)),.agg (GRun.t .far (GRun.mk v3_0 (GSpan.mk v3_1 v3_2) v3_3 v3_4)),.one (tI v5)]=some [(false,[tB true]),(false,[tB true])]) (KH (aQ (GDag.mk v2_0 v2_1 v2_2 v2_3 v2_4 v2_5) (GRun.mk v3_0 (GSpan.mk v3_1 v3_2) v3_3 v3_4) v5 h8 h9 h10 h11) (by rw [h12,h13]))<|AC h14<|AC h15<|AC h16<|AC h17<|AN)
theorem zU {q0:Kd} (v2_0 v2_1:ByteArray) (v2_2 v2_3:Int) (v2_4:Bool) (v2_5:List GTask) (v3_0:ByteArray) (v3_1 v3_2 v3_3:Int) (v3_4:List GState) (v5:Int) (g0:GState) (g1:GTask) (h0:(decide (v5<(v3_4.length:Int)))=true) (h1:aq v3_4 v5=some g0) (h2:(ag g0.f0 (0:Int) (4:Int))=true) (h3:aq v2_5 v5=some g1) (h4:(ag g0.f1 (0:Int) (inc g1.f2))=true) (h5:(ag g0.f2 (0:Int) (1000000000:Int))=true) (h6:(!((decide (g0.f2>(0:Int)))==(g0.f0==(1:Int))))=false) (h7:(ag g0.f3 (0:Int) (68374179:Int))=true) (h8:ak.sm (GDag.mk v2_0 v2_1 v2_2 v2_3 v2_4 v2_5)) (h9:aP (GDag.mk v2_0 v2_1 v2_2 v2_3 v2_4 v2_5)=true) (h10:(GRun.mk v3_0 (GSpan.mk v3_1 v3_2) v3_3 v3_4).f3.length=(GDag.mk v2_0 v2_1 v2_2 v2_3 v2_4 v2_5).f5.length) (h11:0≤v5∧v5<((GDag.mk v2_0 v2_1 v2_2 v2_3 v2_4 v2_5).f5.length:Int)) (h12:((an (GDag.mk v2_0 v2_1 v2_2 v2_3 v2_4 v2_5) (GRun.mk v3_0 (GSpan.mk v3_1 v3_2) v3_3 v3_4) v5).1)=true) (h13:((an (GDag.mk v2_0 v2_1 v2_2 v2_3 v2_4 v2_5) (GRun.mk v3_0 (GSpan.mk v3_1 v3_2) v3_3 v3_4) v5).2)=true) (h14:(g0.f0==(1:Int))=false) (h15:(g0.f0==(2:Int))=true) (h16:(g0.f0==(4:Int))=true) (h17:(g0.f0==(0:Int))=false):aw (ao q0 v2_0 v2_1 v2_2 v2_3 v2_4 v2_5 v3_0 v3_1 v3_2 v3_3 v3_4 v5) .normal (ao q0 v2_0 v2_1 v2_2 v2_3 v2_4 v2_5 v3_0 v3_1 v3_2 v3_3 v3_4 (inc v5)) :=
 RP [.val (.int .i64 (v3_4.length:Int)),.b true,.row (GState.t g0),rT,.row ((GTask.t q0) g1),rT,rT,.no,.no,.b false,rT,.ret [(false,[tB true]),(false,[tB true])],.b false,.b true,.b true,.b false] (ALn v3_4 GState.t<|AC h0<|AR GState.t h1<|AD (KJ (ah g0.f0 (0:Int) (4:Int)) h2)<|AR (GTask.t q0) h3<|AD (KJ (ah g0.f1 (0:Int) (inc g1.f2)) h4)<|AD (KJ (ah g0.f2 (0:Int) (1000000000:Int)) h5)<|AC h6<|AD (KJ (ah g0.f3 (0:Int) (68374179:Int)) h7)<|AV (ψ:=fun k=>E.C k 60 [.agg (GDag.t .far q0 (GDag.mk v2_0 v2_1 v2_2 v2_3 v2_4 v2_5)),.agg (GRun.t .far (GRun.mk v3_0 (GSpan.mk v3_1 v3_2) v3_3 v3_4)),.one (tI v5)]=some [(false,[tB true]),(false,[tB true])]) (KH (aQ (GDag.mk v2_0 v2_1 v2_2 v2_3 v2_4 v2_5) (GRun.mk v3_0 (GSpan.mk v3_1 v3_2) v3_3 v3_4) v5 h8 h9 h10 h11) (by rw [h12,h13]))<|AC h14<|AC h15<|AC h16<|AC h17<|AN)
theorem xV {q0:Kd} (v2_0 v2_1:ByteArray) (v2_2 v2_3:Int) (v2_4:Bool) (v2_5:List GTask) (v3_0:ByteArray) (v3_1 v3_2 v3_3:Int) (v3_4:List GState) (v5:Int) (g0:GState) (g1:GTask) (h0:(decide (v5<(v3_4.length:Int)))=true) (h1:aq v3_4 v5=some g0) (h2:(ag g0.f0 (0:Int) (4:Int))=true) (h3:aq v2_5 v5=some g1) (h4:(ag g0.f1 (0:Int) (inc g1.f2))=true) (h5:(ag g0.f2 (0:Int) (1000000000:Int))=true) (h6:(!((decide (g0.f2>(0:Int)))==(g0.f0==(1:Int))))=false) (h7:(ag g0.f3 (0:Int) (68374179:Int))=true) (h8:ak.sm (GDag.mk v2_0 v2_1 v2_2 v2_3 v2_4 v2_5)) (h9:aP (GDag.mk v2_0 v2_1 v2_2 v2_3 v2_4 v2_5)=true) (h10:(GRun.mk v3_0 (GSpan.mk v3_1 v3_2) v3_3 v3_4).f3.length=(GDag.mk v2_0 v2_1 v2_2 v2_3 v2_4 v2_5).f5.length) (h11:0≤v5∧v5<((GDag.mk v2_0 v2_1 v2_2 v2_3 v2_4 v2_5).f5.length:Int)) (h12:((an (GDag.mk v2_0 v2_1 v2_2 v2_3 v2_4 v2_5) (GRun.mk v3_0 (GSpan.mk v3_1 v3_2) v3_3 v3_4) v5).1)=true) (h13:((an (GDag.mk v2_0 v2_1 v2_2 v2_3 v2_4 v2_5) (GRun.mk v3_0 (GSpan.mk v3_1 v3_2) v3_3 v3_4) v5).2)=false) (h14:(g0.f0==(1:Int))=false) (h15:(g0.f0==(2:Int))=true) (h16:(g0.f0==(4:Int))=true):aw (ao q0 v2_0 v2_1 v2_2 v2_3 v2_4 v2_5 v3_0 v3_1 v3_2 v3_3 v3_4 v5) .ret (aC q0 false) :=
 RP [.val (.int .i64 (v3_4.length:Int)),.b true,.row (GState.t g0),rT,.row ((GTask.t q0) g1),rT,rT,.no,.no,.b false,rT,.ret [(false,[tB true]),(false,[tB false])],.b false,.b true,.b true] (ALn v3_4 GState.t<|AC h0<|AR GState.t h1<|AD (KJ (ah g0.f0 (0:Int) (4:Int)) h2)<|AR (GTask.t q0) h3<|AD (KJ (ah g0.f1 (0:Int) (inc g1.f2)) h4)<|AD (KJ (ah g0.f2 (0:Int) (1000000000:Int)) h5)<|AC h6<|AD (KJ (ah g0.f3 (0:Int) (68374179:Int)) h7)<|AV (ψ:=fun k=>E.C k 60 [.agg (GDag.t .far q0 (GDag.mk v2_0 v2_1 v2_2 v2_3 v2_4 v2_5)),.agg (GRun.t .far (GRun.mk v3_0 (GSpan.mk v3_1 v3_2) v3_3 v3_4)),.one (tI v5)]=some [(false,[tB true]),(false,[tB false])]) (KH (aQ (GDag.mk v2_0 v2_1 v2_2 v2_3 v2_4 v2_5) (GRun.mk v3_0 (GSpan.mk v3_1 v3_2) v3_3 v3_4) v5 h8 h9 h10 h11) (by rw [h12,h13]))<|AC h14<|AC h15<|AC h16<|AN)
theorem xW {q0:Kd} (v2_0 v2_1:ByteArray) (v2_2 v2_3:Int) (v2_4:Bool) (v2_5:List GTask) (v3_0:ByteArray) (v3_1 v3_2 v3_3:Int) (v3_4:List GState) (v5:Int) (g0:GState) (g1:GTask) (h0:(decide (v5<(v3_4.length:Int)))=true) (h1:aq v3_4 v5=some g0) (h2:(ag g0.f0 (0:Int) (4:Int))=true) (h3:aq v2_5 v5=some g1) (h4:(ag g0.f1 (0:Int) (inc g1.f2))=true) (h5:(ag g0.f2 (0:Int) (1000000000:Int))=true) (h6:(!((decide (g0.f2>(0:Int)))==(g0.f0==(1:Int))))=false) (h7:(ag g0.f3 (0:Int) (68374179:Int))=true) (h8:ak.sm (GDag.mk v2_0 v2_1 v2_2 v2_3 v2_4 v2_5)) (h9:aP (GDag.mk v2_0 v2_1 v2_2 v2_3 v2_4 v2_5)=true) (h10:(GRun.mk v3_0 (GSpan.mk v3_1 v3_2) v3_3 v3_4).f3.length=(GDag.mk v2_0 v2_1 v2_2 v2_3 v2_4 v2_5).f5.length) (h11:0≤v5∧v5<((GDag.mk v2_0 v2_1 v2_2 v2_3 v2_4 v2_5).f5.length:Int)) (h12:((an (GDag.mk v2_0 v2_1 v2_2 v2_3 v2_4 v2_5) (GRun.mk v3_0 (GSpan.mk v3_1 v3_2) v3_3 v3_4) v5).1)=true) (h13:((an (GDag.mk v2_0 v2_1 v2_2 v2_3 v2_4 v2_5) (GRun.mk v3_0 (GSpan.mk v3_1 v3_2) v3_3 v3_4) v5).2)=true) (h14:(g0.f0==(1:Int))=false) (h15:(g0.f0==(2:Int))=true) (h16:(g0.f0==(4:Int))=false) (h17:(g0.f0==(0:Int))=true):aw (ao q0 v2_0 v2_1 v2_2 v2_3 v2_4 v2_5 v3_0 v3_1 v3_2 v3_3 v3_4 v5) .ret (aC q0 false) :=
 RP [.val (.int .i64 (v3_4.length:Int)),.b true,.row (GState.t g0),rT,.row ((GTask.t q0) g1),rT,rT,.no,.no,.b false,rT,.ret [(false,[tB true]),(false,[tB true])],.b false,.b true,.b false,.b true] (ALn v3_4 GState.t<|AC h0<|AR GState.t h1<|AD (KJ (ah g0.f0 (0:Int) (4:Int)) h2)<|AR (GTask.t q0) h3<|AD (KJ (ah g0.f1 (0:Int) (inc g1.f2)) h4)<|AD (KJ (ah g0.f2 (0:Int) (1000000000:Int)) h5)<|AC h6<|AD (KJ (ah g0.f3 (0:Int) (68374179:Int)) h7)<|AV (ψ:=fun k=>E.C k 60 [.agg (GDag.t .far q0 (GDag.mk v2_0 v2_1 v2_2 v2_3 v2_4 v2_5)),.agg (GRun.t .far (GRun.mk v3_0 (GSpan.mk v3_1 v3_2) v3_3 v3_4)),.one (tI v5)]=some [(false,[tB true]),(false,[tB true])]) (KH (aQ (GDag.mk v2_0 v2_1 v2_2 v2_3 v2_4 v2_5) (GRun.mk v3_0 (GSpan.mk v3_1 v3_2) v3_3 v3_4) v5 h8 h9 h10 h11) (by rw [h12,h13]))<|AC h14<|AC h15<|AC h16<|AC h17<|AN)
theorem xX {q0:Kd} (v2_0 v2_1:ByteArray) (v2_2 v2_3:Int) (v2_4:Bool) (v2_5:List GTask) (v3_0:ByteArray) (v3_1 v3_2 v3_3:Int) (v3_4:List GState) (v5:Int) (g0:GState) (g1:GTask) (h0:(decide (v5<(v3_4.length:Int)))=true) (h1:aq v3_4 v5=some g0) (h2:(ag g0.f0 (0:Int) (4:Int))=true) (h3:aq v2_5 v5=some g1) (h4:(ag g0.f1 (0:Int) (inc g1.f2))=true) (h5:(ag g0.f2 (0:Int) (1000000000:Int))=true) (h6:(!((decide (g0.f2>(0:Int)))==(g0.f0==(1:Int))))=false) (h7:(ag g0.f3 (0:Int) (68374179:Int))=true) (h8:ak.sm (GDag.mk v2_0 v2_1 v2_2 v2_3 v2_4 v2_5)) (h9:aP (GDag.mk v2_0 v2_1 v2_2 v2_3 v2_4 v2_5)=true) (h10:(GRun.mk v3_0 (GSpan.mk v3_1 v3_2) v3_3 v3_4).f3.length=(GDag.mk v2_0 v2_1 v2_2 v2_3 v2_4 v2_5).f5.length) (h11:0≤v5∧v5<((GDag.mk v2_0 v2_1 v2_2 v2_3 v2_4 v2_5).f5.length:Int)) (h12:((an (GDag.mk v2_0 v2_1 v2_2 v2_3 v2_4 v2_5) (GRun.mk v3_0 (GSpan.mk v3_1 v3_2) v3_3 v3_4) v5).1)=true) (h13:((an (GDag.mk v2_0 v2_1 v2_2 v2_3 v2_4 v2_5) (GRun.mk v3_0 (GSpan.mk v3_1 v3_2) v3_3 v3_4) v5).2)=false) (h14:(g0.f0==(1:Int))=false) (h15:(g0.f0==(2:Int))=true) (h16:(g0.f0==(4:Int))=false) (h17:(g0.f0==(0:Int))=true):aw (ao q0 v2_0 v2_1 v2_2 v2_3 v2_4 v2_5 v3_0 v3_1 v3_2 v3_3 v3_4 v5) .normal (ao q0 v2_0 v2_1 v2_2 v2_3 v2_4 v2_5 v3_0 v3_1 v3_2 v3_3 v3_4 (inc v5)) :=
 RP [.val (.int .i64 (v3_4.length:Int)),.b true,.row (GState.t g0),rT,.row ((GTask.t q0) g1),rT,rT,.no,.no,.b false,rT,.ret [(false,[tB true]),(false,[tB false])],.b false,.b true,.b false,.b true] (ALn v3_4 GState.t<|AC h0<|AR GState.t h1<|AD (KJ (ah g0.f0 (0:Int) (4:Int)) h2)<|AR (GTask.t q0) h3<|AD (KJ (ah g0.f1 (0:Int) (inc g1.f2)) h4)<|AD (KJ (ah g0.f2 (0:Int) (1000000000:Int)) h5)<|AC h6<|AD (KJ (ah g0.f3 (0:Int) (68374179:Int)) h7)<|AV (ψ:=fun k=>E.C k 60 [.agg (GDag.t .far q0 (GDag.mk v2_0 v2_1 v2_2 v2_3 v2_4 v2_5)),.agg (GRun.t .far (GRun.mk v3_0 (GSpan.mk v3_1 v3_2) v3_3 v3_4)),.one (tI v5)]=some [(false,[tB true]),(false,[tB false])]) (KH (aQ (GDag.mk v2_0 v2_1 v2_2 v2_3 v2_4 v2_5) (GRun.mk v3_0 (GSpan.mk v3_1 v3_2) v3_3 v3_4) v5 h8 h9 h10 h11) (by rw [h12,h13]))<|AC h14<|AC h15<|AC h16<|AC h17<|AN)
theorem xY {q0:Kd} (v2_0 v2_1:ByteArray) (v2_2 v2_3:Int) (v2_4:Bool) (v2_5:List GTask) (v3_0:ByteArray) (v3_1 v3_2 v3_3:Int) (v3_4:List GState) (v5:Int) (g0:GState) (g1:GTask) (h0:(decide (v5<(v3_4.length:Int)))=true) (h1:aq v3_4 v5=some g0) (h2:(ag g0.f0 (0:Int) (4:Int))=true) (h3:aq v2_5 v5=some g1) (h4:(ag g0.f1 (0:Int) (inc g1.f2))=true) (h5:(ag g0.f2 (0:Int) (1000000000:Int))=true) (h6:(!((decide (g0.f2>(0:Int)))==(g0.f0==(1:Int))))=false) (h7:(ag g0.f3 (0:Int) (68374179:Int))=true) (h8:ak.sm (GDag.mk v2_0 v2_1 v2_2 v2_3 v2_4 v2_5)) (h9:aP (GDag.mk v2_0 v2_1 v2_2 v2_3 v2_4 v2_5)=true) (h10:(GRun.mk v3_0 (GSpan.mk v3_1 v3_2) v3_3 v3_4).f3.length=(GDag.mk v2_0 v2_1 v2_2 v2_3 v2_4 v2_5).f5.length) (h11:0≤v5∧v5<((GDag.mk v2_0 v2_1 v2_2 v2_3 v2_4 v2_5).f5.length:Int)) (h12:((an (GDag.mk v2_0 v2_1 v2_2 v2_3 v2_4 v2_5) (GRun.mk v3_0 (GSpan.mk v3_1 v3_2) v3_3 v3_4) v5).1)=true) (h13:(g0.f0==(1:Int))=false) (h14:(g0.f0==(2:Int))=true) (h15:(g0.f0==(4:Int))=false) (h16:(g0.f0==(0:Int))=false):aw (ao q0 v2_0 v2_1 v2_2 v2_3 v2_4 v2_5 v3_0 v3_1 v3_2 v3_3 v3_4 v5) .normal (ao q0 v2_0 v2_1 v2_2 v2_3 v2_4 v2_5 v3_0 v3_1 v3_2 v3_3 v3_4 (inc v5)) :=
 RP [.val (.int .i64 (v3_4.length:Int)),.b true,.row (GState.t g0),rT,.row ((GTask.t q0) g1),rT,rT,.no,.no,.b false,rT,.ret [(false,[tB true]),(false,[tB ((an (GDag.mk v2_0 v2_1 v2_2 v2_3 v2_4 v2_5) (GRun.mk v3_0 (GSpan.mk v3_1 v3_2) v3_3 v3_4) v5).2)])],.b false,.b true,.b false,.b false] (ALn v3_4 GState.t<|AC h0<|AR GState.t h1<|AD (KJ (ah g0.f0 (0:Int) (4:Int)) h2)<|AR (GTask.t q0) h3<|AD (KJ (ah g0.f1 (0:Int) (inc g1.f2)) h4)<|AD (KJ (ah g0.f2 (0:Int) (1000000000:Int)) h5)<|AC h6<|AD (KJ (ah g0.f3 (0:Int) (68374179:Int)) h7)<|AV (ψ:=fun k=>E.C k 60 [.agg (GDag.t .far q0 (GDag.mk v2_0 v2_1 v2_2 v2_3 v2_4 v2_5)),.agg (GRun.t .far (GRun.mk v3_0 (GSpan.mk v3_1 v3_2) v3_3 v3_4)),.one (tI v5)]=some [(false,[tB true]),(false,[tB ((an (GDag.mk v2_0 v2_1 v2_2 v2_3 v2_4 v2_5) (GRun.mk v3_0 (GSpan.mk v3_1 v3_2) v3_3 v3_4) v5).2)])]) (KH (aQ (GDag.mk v2_0 v2_1 v2_2 v2_3 v2_4 v2_5) (GRun.mk v3_0 (GSpan.mk v3_1 v3_2) v3_3 v3_4) v5 h8 h9 h10 h11) (by rw [h12]))<|AC h13<|AC h14<|AC h15<|AC h16<|AN)
theorem xZ {q0:Kd} (v2_0 v2_1:ByteArray) (v2_2 v2_3:Int) (v2_4:Bool) (v2_5:List GTask) (v3_0:ByteArray) (v3_1 v3_2 v3_3:Int) (v3_4:List GState) (v5:Int) (g0:GState) (g1:GTask) (h0:(decide (v5<(v3_4.length:Int)))=true) (h1:aq v3_4 v5=some g0) (h2:(ag g0.f0 (0:Int) (4:Int))=true) (h3:aq v2_5 v5=some g1) (h4:(ag g0.f1 (0:Int) (inc g1.f2))=true) (h5:(ag g0.f2 (0:Int) (1000000000:Int))=true) (h6:(!((decide (g0.f2>(0:Int)))==(g0.f0==(1:Int))))=false) (h7:(ag g0.f3 (0:Int) (68374179:Int))=true) (h8:ak.sm (GDag.mk v2_0 v2_1 v2_2 v2_3 v2_4 v2_5)) (h9:aP (GDag.mk v2_0 v2_1 v2_2 v2_3 v2_4 v2_5)=true) (h10:(GRun.mk v3_0 (GSpan.mk v3_1 v3_2) v3_3 v3_4).f3.length=(GDag.mk v2_0 v2_1 v2_2 v2_3 v2_4 v2_5).f5.length) (h11:0≤v5∧v5<((GDag.mk v2_0 v2_1 v2_2 v2_3 v2_4 v2_5).f5.length:Int)) (h12:((an (GDag.mk v2_0 v2_1 v2_2 v2_3 v2_4 v2_5) (GRun.mk v3_0 (GSpan.mk v3_1 v3_2) v3_3 v3_4) v5).1)=false) (h13:(g0.f0==(1:Int))=false) (h14:(g0.f0==(2:Int))=true):aw (ao q0 v2_0 v2_1 v2_2 v2_3 v2_4 v2_5 v3_0 v3_1 v3_2 v3_3 v3_4 v5) .ret (aC q0 false) :=
 RP [.val (.int .i64 (v3_4.length:Int)),.b true,.row (GState.t g0),rT,.row ((GTask.t q0) g1),rT,rT,.no,.no,.b false,rT,.ret [(false,[tB false]),(false,[tB ((an (GDag.mk v2_0 v2_1 v2_2 v2_3 v2_4 v2_5) (GRun.mk v3_0 (GSpan.mk v3_1 v3_2) v3_3 v3_4) v5).2)])],.b false,.b true] (ALn v3_4 GState.t<|AC h0<|AR GState.t h1<|AD (KJ (ah g0.f0 (0:Int) (4:Int)) h2)<|AR (GTask.t q0) h3<|AD (KJ (ah g0.f1 (0:Int) (inc g1.f2)) h4)<|AD (KJ (ah g0.f2 (0:Int) (1000000000:Int)) h5)<|AC h6<|AD (KJ (ah g0.f3 (0:Int) (68374179:Int)) h7)<|AV (ψ:=fun k=>E.C k 60 [.agg (GDag.t .far q0 (GDag.mk v2_0 v2_1 v2_2 v2_3 v2_4 v2_5)),.agg (GRun.t .far (GRun.mk v3_0 (GSpan.mk v3_1 v3_2) v3_3 v3_4)),.one (tI v5)]=some [(false,[tB false]),(false,[tB ((an (GDag.mk v2_0 v2_1 v2_2 v2_3 v2_4 v2_5) (GRun.mk v3_0 (GSpan.mk v3_1 v3_2) v3_3 v3_4) v5).2)])]) (KH (aQ (GDag.mk v2_0 v2_1 v2_2 v2_3 v2_4 v2_5) (GRun.mk v3_0 (GSpan.mk v3_1 v3_2) v3_3 v3_4) v5 h8 h9 h10 h11) (by rw [h12]))<|AC h13<|AC h14<|AN)
theorem x5 {q0:Kd} (v2_0 v2_1:ByteArray) (v2_2 v2_3:Int) (v2_4:Bool) (v2_5:List GTask) (v3_0:ByteArray) (v3_1 v3_2 v3_3:Int) (v3_4:List GState) (v5:Int) (g0:GState) (g1:GTask) (h0:(decide (v5<(v3_4.length:Int)))=true) (h1:aq v3_4 v5=some g0) (h2:(ag g0.f0 (0:Int) (4:Int))=true) (h3:aq v2_5 v5=some g1) (h4:(ag g0.f1 (0:Int) (inc g1.f2))=true) (h5:(ag g0.f2 (0:Int) (1000000000:Int))=true) (h6:(!((decide (g0.f2>(0:Int)))==(g0.f0==(1:Int))))=false) (h7:(ag g0.f3 (0:Int) (68374179:Int))=true) (h8:ak.sm (GDag.mk v2_0 v2_1 v2_2 v2_3 v2_4 v2_5)) (h9:aP (GDag.mk v2_0 v2_1 v2_2 v2_3 v2_4 v2_5)=true) (h10:(GRun.mk v3_0 (GSpan.mk v3_1 v3_2) v3_3 v3_4).f3.length=(GDag.mk v2_0 v2_1 v2_2 v2_3 v2_4 v2_5).f5.length) (h11:0≤v5∧v5<((GDag.mk v2_0 v2_1 v2_2 v2_3 v2_4 v2_5).f5.length:Int)) (h12:((an (GDag.mk v2_0 v2_1 v2_2 v2_3 v2_4 v2_5) (GRun.mk v3_0 (GSpan.mk v3_1 v3_2) v3_3 v3_4) v5).2)=true) (h13:(g0.f0==(1:Int))=false) (h14:(g0.f0==(2:Int))=false) (h15:(g0.f0==(4:Int))=true) (h16:(g0.f0==(0:Int))=true):aw (ao q0 v2_0 v2_1 v2_2 v2_3 v2_4 v2_5 v3_0 v3_1 v3_2 v3_3 v3_4 v5) .ret (aC q0 false) :=
 RP [.val (.int .i64 (v3_4.length:Int)),.b true,.row (GState.t g0),rT,.row ((GTask.t q0) g1),rT,rT,.no,.no,.b false,rT,.ret [(false,[tB ((an (GDag.mk v2_0 v2_1 v2_2 v2_3 v2_4 v2_5) (GRun.mk v3_0 (GSpan.mk v3_1 v3_2) v3_3 v3_4) v5).1)]),(false,[tB true])],.b false,.b false,.b true,.b true] (ALn v3_4 GState.t<|AC h0<|AR GState.t h1<|AD (KJ (ah g0.f0 (0:Int) (4:Int)) h2)<|AR (GTask.t q0) h3<|AD (KJ (ah g0.f1 (0:Int) (inc g1.f2)) h4)<|AD (KJ (ah g0.f2 (0:Int) (1000000000:Int)) h5)<|AC h6<|AD (KJ (ah g0.f3 (0:Int) (68374179:Int)) h7)<|AV (ψ:=fun k=>E.C k 60 [.agg (GDag.t .far q0 (GDag.mk v2_0 v2_1 v2_2 v2_3 v2_4 v2_5)),.agg (GRun.t .far (GRun.mk v3_0 (GSpan.mk v3_1 v3_2) v3_3 v3_4)),.one (tI v5)]=some [(false,[tB ((an (GDag.mk v2_0 v2_1 v2_2 v2_3 v2_4 v2_5) (GRun.mk v3_0 (GSpan.mk v3_1 v3_2) v3_3 v3_4) v5).1)]),(false,[tB true])]) (KH (aQ (GDag.mk v2_0 v2_1 v2_2 v2_3 v2_4 v2_5) (GRun.mk v3_0 (GSpan.mk v3_1 v3_2) v3_3 v3_4) v5 h8 h9 h10 h11) (by rw [h12]))<|AC h13<|AC h14<|AC h15<|AC h16<|AN)
theorem x6 {q0:Kd} (v2_0 v2_1:ByteArray) (v2_2 v2_3:Int) (v2_4:Bool) (v2_5:List GTask) (v3_0:ByteArray) (v3_1 v3_2 v3_3:Int) (v3_4:List GState) (v5:Int) (g0:GState) (g1:GTask) (h0:(decide (v5<(v3_4.length:Int)))=true) (h1:aq v3_4 v5=some g0) (h2:(ag g0.f0 (0:Int) (4:Int))=true) (h3:aq v2_5 v5=some g1) (h4:(ag g0.f1 (0:Int) (inc g1.f2))=true) (h5:(ag g0.f2 (0:Int) (1000000000:Int))=true) (h6:(!((decide (g0.f2>(0:Int)))==(g0.f0==(1:Int))))=false) (h7:(ag g0.f3 (0:Int) (68374179:Int))=true) (h8:ak.sm (GDag.mk v2_0 v2_1 v2_2 v2_3 v2_4 v2_5)) (h9:aP (GDag.mk v2_0 v2_1 v2_2 v2_3 v2_4 v2_5)=true) (h10:(GRun.mk v3_0 (GSpan.mk v3_1 v3_2) v3_3 v3_4).f3.length=(GDag.mk v2_0 v2_1 v2_2 v2_3 v2_4 v2_5).f5.length) (h11:0≤v5∧v5<((GDag.mk v2_0 v2_1 v2_2 v2_3 v2_4 v2_5).f5.length:Int)) (h12:((an (GDag.mk v2_0 v2_1 v2_2 v2_3 v2_4 v2_5) (GRun.mk v3_0 (GSpan.mk v3_1 v3_2) v3_3 v3_4) v5).2)=true) (h13:(g0.f0==(1:Int))=false) (h14:(g0.f0==(2:Int))=false) (h15:(g0.f0==(4:Int))=true) (h16:(g0.f0==(0:Int))=false):aw (ao q0 v2_0 v2_1 v2_2 v2_3 v2_4 v2_5 v3_0 v3_1 v3_2 v3_3 v3_4 v5) .normal (ao q0 v2_0 v2_1 v2_2 v2_3 v2_4 v2_5 v3_0 v3_1 v3_2 v3_3 v3_4 (inc v5)) :=
 RP [.val (.int .i64 (v3_4.length:Int)),.b true,.row (GState.t g0),rT,.row ((GTask.t q0) g1),rT,rT,.no,.no,.b false,rT,.ret [(false,[tB ((an (GDag.mk v2_0 v2_1 v2_2 v2_3 v2_4 v2_5) (GRun.mk v3_0 (GSpan.mk v3_1 v3_2) v3_3 v3_4) v5).1)]),(false,[tB true])],.b false,.b false,.b true,.b false] (ALn v3_4 GState.t<|AC h0<|AR GState.t h1<|AD (KJ (ah g0.f0 (0:Int) (4:Int)) h2)<|AR (GTask.t q0) h3<|AD (KJ (ah g0.f1 (0:Int) (inc g1.f2)) h4)<|AD (KJ (ah g0.f2 (0:Int) (1000000000:Int)) h5)<|AC h6<|AD (KJ (ah g0.f3 (0:Int) (68374179:Int)) h7)<|AV (ψ:=fun k=>E.C k 60 [.agg (GDag.t .far q0 (GDag.mk v2_0 v2_1 v2_2 v2_3 v2_4 v2_5)),.agg (GRun.t .far (GRun.mk v3_0 (GSpan.mk v3_1 v3_2) v3_3 v3_4)),.one (tI v5)]=some [(false,[tB ((an (GDag.mk v2_0 v2_1 v2_2 v2_3 v2_4 v2_5) (GRun.mk v3_0 (GSpan.mk v3_1 v3_2) v3_3 v3_4) v5).1)]),(false,[tB true])]) (KH (aQ (GDag.mk v2_0 v2_1 v2_2 v2_3 v2_4 v2_5) (GRun.mk v3_0 (GSpan.mk v3_1 v3_2) v3_3 v3_4) v5 h8 h9 h10 h11) (by rw [h12]))<|AC h13<|AC h14<|AC h15<|AC h16<|AN)
theorem x7 {q0:Kd} (v2_0 v2_1:ByteArray) (v2_2 v2_3:Int) (v2_4:Bool) (v2_5:List GTask) (v3_0:ByteArray) (v3_1 v3_2 v3_3:Int) (v3_4:List GState) (v5:Int) (g0:GState) (g1:GTask) (h0:(decide (v5<(v3_4.length:Int)))=true) (h1:aq v3_4 v5=some g0) (h2:(ag g0.f0 (0:Int) (4:Int))=true) (h3:aq v2_5 v5=some g1) (h4:(ag g0.f1 (0:Int) (inc g1.f2))=true) (h5:(ag g0.f2 (0:Int) (1000000000:Int))=true) (h6:(!((decide (g0.f2>(0:Int)))==(g0.f0==(1:Int))))=false) (h7:(ag g0.f3 (0:Int) (68374179:Int))=true) (h8:ak.sm (GDag.mk v2_0 v2_1 v2_2 v2_3 v2_4 v2_5)) (h9:aP (GDag.mk v2_0 v2_1 v2_2 v2_3 v2_4 v2_5)=true) (h10:(GRun.mk v3_0 (GSpan.mk v3_1 v3_2) v3_3 v3_4).f3.length=(GDag.mk v2_0 v2_1 v2_2 v2_3 v2_4 v2_5).f5.length) (h11:0≤v5∧v5<((GDag.mk v2_0 v2_1 v2_2 v2_3 v2_4 v2_5).f5.length:Int)) (h12:((an (GDag.mk v2_0 v2_1 v2_2 v2_3 v2_4 v2_5) (GRun.mk v3_0 (GSpan.mk v3_1 v3_2) v3_3 v3_4) v5).2)=false) (h13:(g0.f0==(1:Int))=false) (h14:(g0.f0==(2:Int))=false) (h15:(g0.f0==(4:Int))=true):aw (ao q0 v2_0 v2_1 v2_2 v2_3 v2_4 v2_5 v3_0 v3_1 v3_2 v3_3 v3_4 v5) .ret (aC q0 false) :=
 RP [.val (.int .i64 (v3_4.length:Int)),.b true,.row (GState.t g0),rT,.row ((GTask.t q0) g1),rT,rT,.no,.no,.b false,rT,.ret [(false,[tB ((an (GDag.mk v2_0 v2_1 v2_2 v2_3 v2_4 v2_5) (GRun.mk v3_0 (GSpan.mk v3_1 v3_2) v3_3 v3_4) v5).1)]),(false,[tB false])],.b false,.b false,.b true] (ALn v3_4 GState.t<|AC h0<|AR GState.t h1<|AD (KJ (ah g0.f0 (0:Int) (4:Int)) h2)<|AR (GTask.t q0) h3<|AD (KJ (ah g0.f1 (0:Int) (inc g1.f2)) h4)<|AD (KJ (ah g0.f2 (0:Int) (1000000000:Int)) h5)<|AC h6<|AD (KJ (ah g0.f3 (0:Int) (68374179:Int)) h7)<|AV (ψ:=fun k=>E.C k 60 [.agg (GDag.t .far q0 (GDag.mk v2_0 v2_1 v2_2 v2_3 v2_4 v2_5)),.agg (GRun.t .far (GRun.mk v3_0 (GSpan.mk v3_1 v3_2) v3_3 v3_4)),.one (tI v5)]=some [(false,[tB ((an (GDag.mk v2_0 v2_1 v2_2 v2_3 v2_4 v2_5) (GRun.mk v3_0 (GSpan.mk v3_1 v3_2) v3_3 v3_4) v5).1)]),(false,[tB false])]) (KH (aQ (GDag.mk v2_0 v2_1 v2_2 v2_3 v2_4 v2_5) (GRun.mk v3_0 (GSpan.mk v3_1 v3_2) v3_3 v3_4) v5 h8 h9 h10 h11) (by rw [h12]))<|AC h13<|AC h14<|AC h15<|AN)
theorem x8 {q0:Kd} (v2_0 v2_1:ByteArray) (v2_2 v2_3:Int) (v2_4:Bool) (v2_5:List GTask) (v3_0:ByteArray) (v3_1 v3_2 v3_3:Int) (v3_4:List GState) (v5:Int) (g0:GState) (g1:GTask) (h0:(decide (v5<(v3_4.length:Int)))=true) (h1:aq v3_4 v5=some g0) (h2:(ag g0.f0 (0:Int) (4:Int))=true) (h3:aq v2_5 v5=some g1) (h4:(ag g0.f1 (0:Int) (inc g1.f2))=true) (h5:(ag g0.f2 (0:Int) (1000000000:Int))=true) (h6:(!((decide (g0.f2>(0:Int)))==(g0.f0==(1:Int))))=false) (h7:(ag g0.f3 (0:Int) (68374179:Int))=true) (h8:ak.sm (GDag.mk v2_0 v2_1 v2_2 v2_3 v2_4 v2_5)) (h9:aP (GDag.mk v2_0 v2_1 v2_2 v2_3 v2_4 v2_5)=true) (h10:(GRun.mk v3_0 (GSpan.mk v3_1 v3_2) v3_3 v3_4).f3.length=(GDag.mk v2_0 v2_1 v2_2 v2_3 v2_4 v2_5).f5.length) (h11:0≤v5∧v5<((GDag.mk v2_0 v2_1 v2_2 v2_3 v2_4 v2_5).f5.length:Int)) (h12:((an (GDag.mk v2_0 v2_1 v2_2 v2_3 v2_4 v2_5) (GRun.mk v3_0 (GSpan.mk v3_1 v3_2) v3_3 v3_4) v5).2)=true) (h13:(g0.f0==(1:Int))=false) (h14:(g0.f0==(2:Int))=false) (h15:(g0.f0==(4:Int))=false) (h16:(g0.f0==(0:Int))=true):aw (ao q0 v2_0 v2_1 v2_2 v2_3 v2_4 v2_5 v3_0 v3_1 v3_2 v3_3 v3_4 v5) .ret (aC q0 false) :=
 RP [.val (.int .i64 (v3_4.length:Int)),.b true,.row (GState.t g0),rT,.row ((GTask.t q0) g1),rT,rT,.no,.no,.b false,rT,.ret [(false,[tB ((an (GDag.mk v2_0 v2_1 v2_2 v2_3 v2_4 v2_5) (GRun.mk v3_0 (GSpan.mk v3_1 v3_2) v3_3 v3_4) v5).1)]),(false,[tB true])],.b false,.b false,.b false,.b true] (ALn v3_4 GState.t<|AC h0<|AR GState.t h1<|AD (KJ (ah g0.f0 (0:Int) (4:Int)) h2)<|AR (GTask.t q0) h3<|AD (KJ (ah g0.f1 (0:Int) (inc g1.f2)) h4)<|AD (KJ (ah g0.f2 (0:Int) (1000000000:Int)) h5)<|AC h6<|AD (KJ (ah g0.f3 (0:Int) (68374179:Int)) h7)<|AV (ψ:=fun k=>E.C k 60 [.agg (GDag.t .far q0 (GDag.mk v2_0 v2_1 v2_2 v2_3 v2_4 v2_5)),.agg (GRun.t .far (GRun.mk v3_0 (GSpan.mk v3_1 v3_2) v3_3 v3_4)),.one (tI v5)]=some [(false,[tB ((an (GDag.mk v2_0 v2_1 v2_2 v2_3 v2_4 v2_5) (GRun.mk v3_0 (GSpan.mk v3_1 v3_2) v3_3 v3_4) v5).1)]),(false,[tB true])]) (KH (aQ (GDag.mk v2_0 v2_1 v2_2 v2_3 v2_4 v2_5) (GRun.mk v3_0 (GSpan.mk v3_1 v3_2) v3_3 v3_4) v5 h8 h9 h10 h11) (by rw [h12]))<|AC h13<|AC h14<|AC h15<|AC h16<|AN)
theorem x9 {q0:Kd} (v2_0 v2_1:ByteArray) (v2_2 v2_3:Int) (v2_4:Bool) (v2_5:List GTask) (v3_0:ByteArray) (v3_1 v3_2 v3_3:Int) (v3_4:List GState) (v5:Int) (g0:GState) (g1:GTask) (h0:(decide (v5<(v3_4.length:Int)))=true) (h1:aq v3_4 v5=some g0) (h2:(ag g0.f0 (0:Int) (4:Int))=true) (h3:aq v2_5 v5=some g1) (h4:(ag g0.f1 (0:Int) (inc g1.f2))=true) (h5:(ag g0.f2 (0:Int) (1000000000:Int))=true) (h6:(!((decide (g0.f2>(0:Int)))==(g0.f0==(1:Int))))=false) (h7:(ag g0.f3 (0:Int) (68374179:Int))=true) (h8:ak.sm (GDag.mk v2_0 v2_1 v2_2 v2_3 v2_4 v2_5)) (h9:aP (GDag.mk v2_0 v2_1 v2_2 v2_3 v2_4 v2_5)=true) (h10:(GRun.mk v3_0 (GSpan.mk v3_1 v3_2) v3_3 v3_4).f3.length=(GDag.mk v2_0 v2_1 v2_2 v2_3 v2_4 v2_5).f5.length) (h11:0≤v5∧v5<((GDag.mk v2_0 v2_1 v2_2 v2_3 v2_4 v2_5).f5.length:Int)) (h12:((an (GDag.mk v2_0 v2_1 v2_2 v2_3 v2_4 v2_5) (GRun.mk v3_0 (GSpan.mk v3_1 v3_2) v3_3 v3_4) v5).2)=false) (h13:(g0.f0==(1:Int))=false) (h14:(g0.f0==(2:Int))=false) (h15:(g0.f0==(4:Int))=false) (h16:(g0.f0==(0:Int))=true):aw (ao q0 v2_0 v2_1 v2_2 v2_3 v2_4 v2_5 v3_0 v3_1 v3_2 v3_3 v3_4 v5) .normal (ao q0 v2_0 v2_1 v2_2 v2_3 v2_4 v2_5 v3_0 v3_1 v3_2 v3_3 v3_4 (inc v5)) :=
 RP [.val (.int .i64 (v3_4.length:Int)),.b true,.row (GState.t g0),rT,.row ((GTask.t q0) g1),rT,rT,.no,.no,.b false,rT,.ret [(false,[tB ((an (GDag.mk v2_0 v2_1 v2_2 v2_3 v2_4 v2_5) (GRun.mk v3_0 (GSpan.mk v3_1 v3_2) v3_3 v3_4) v5).1)]),(false,[tB false])],.b false,.b false,.b false,.b true] (ALn v3_4 GState.t<|AC h0<|AR GState.t h1<|AD (KJ (ah g0.f0 (0:Int) (4:Int)) h2)<|AR (GTask.t q0) h3<|AD (KJ (ah g0.f1 (0:Int) (inc g1.f2)) h4)<|AD (KJ (ah g0.f2 (0:Int) (1000000000:Int)) h5)<|AC h6<|AD (KJ (ah g0.f3 (0:Int) (68374179:Int)) h7)<|AV (ψ:=fun k=>E.C k 60 [.agg (GDag.t .far q0 (GDag.mk v2_0 v2_1 v2_2 v2_3 v2_4 v2_5)),.agg (GRun.t .far (GRun.mk v3_0 (GSpan.mk v3_1 v3_2) v3_3 v3_4)),.one (tI v5)]=some [(false,[tB ((an (GDag.mk v2_0 v2_1 v2_2 v2_3 v2_4 v2_5) (GRun.mk v3_0 (GSpan.mk v3_1 v3_2) v3_3 v3_4) v5).1)]),(false,[tB false])]) (KH (aQ (GDag.mk v2_0 v2_1 v2_2 v2_3 v2_4 v2_5) (GRun.mk v3_0 (GSpan.mk v3_1 v3_2) v3_3 v3_4) v5 h8 h9 h10 h11) (by rw [h12]))<|AC h13<|AC h14<|AC h15<|AC h16<|AN)
theorem ya {q0:Kd} (v2_0 v2_1:ByteArray) (v2_2 v2_3:Int) (v2_4:Bool) (v2_5:List GTask) (v3_0:ByteArray) (v3_1 v3_2 v3_3:Int) (v3_4:List GState) (v5:Int) (g0:GState) (g1:GTask) (h0:(decide (v5<(v3_4.length:Int)))=true) (h1:aq v3_4 v5=some g0) (h2:(ag g0.f0 (0:Int) (4:Int))=true) (h3:aq v2_5 v5=some g1) (h4:(ag g0.f1 (0:Int) (inc g1.f2))=true) (h5:(ag g0.f2 (0:Int) (1000000000:Int))=true) (h6:(!((decide (g0.f2>(0:Int)))==(g0.f0==(1:Int))))=false) (h7:(ag g0.f3 (0:Int) (68374179:Int))=true) (h8:ak.sm (GDag.mk v2_0 v2_1 v2_2 v2_3 v2_4 v2_5)) (h9:aP (GDag.mk v2_0 v2_1 v2_2 v2_3 v2_4 v2_5)=true) (h10:(GRun.mk v3_0 (GSpan.mk v3_1 v3_2) v3_3 v3_4).f3.length=(GDag.mk v2_0 v2_1 v2_2 v2_3 v2_4 v2_5).f5.length) (h11:0≤v5∧v5<((GDag.mk v2_0 v2_1 v2_2 v2_3 v2_4 v2_5).f5.length:Int)) (h12:(g0.f0==(1:Int))=false) (h13:(g0.f0==(2:Int))=false) (h14:(g0.f0==(4:Int))=false) (h15:(g0.f0==(0:Int))=false):aw (ao q0 v2_0 v2_1 v2_2 v2_3 v2_4 v2_5 v3_0 v3_1 v3_2 v3_3 v3_4 v5) .normal (ao q0 v2_0 v2_1 v2_2 v2_3 v2_4 v2_5 v3_0 v3_1 v3_2 v3_3 v3_4 (inc v5)) :=
 RP [.val (.int .i64 (v3_4.length:Int)),.b true,.row (GState.t g0),rT,.row ((GTask.t q0) g1),rT,rT,.no,.no,.b false,rT,.ret [(false,[tB ((an (GDag.mk v2_0 v2_1 v2_2 v2_3 v2_4 v2_5) (GRun.mk v3_0 (GSpan.mk v3_1 v3_2) v3_3 v3_4) v5).1)]),(false,[tB ((an (GDag.mk v2_0 v2_1 v2_2 v2_3 v2_4 v2_5) (GRun.mk v3_0 (GSpan.mk v3_1 v3_2) v3_3 v3_4) v5).2)])],.b false,.b false,.b false,.b false] (ALn v3_4 GState.t<|AC h0<|AR GState.t h1<|AD (KJ (ah g0.f0 (0:Int) (4:Int)) h2)<|AR (GTask.t q0) h3<|AD (KJ (ah g0.f1 (0:Int) (inc g1.f2)) h4)<|AD (KJ (ah g0.f2 (0:Int) (1000000000:Int)) h5)<|AC h6<|AD (KJ (ah g0.f3 (0:Int) (68374179:Int)) h7)<|AV (ψ:=fun k=>E.C k 60 [.agg (GDag.t .far q0 (GDag.mk v2_0 v2_1 v2_2 v2_3 v2_4 v2_5)),.agg (GRun.t .far (GRun.mk v3_0 (GSpan.mk v3_1 v3_2) v3_3 v3_4)),.one (tI v5)]=some [(false,[tB ((an (GDag.mk v2_0 v2_1 v2_2 v2_3 v2_4 v2_5) (GRun.mk v3_0 (GSpan.mk v3_1 v3_2) v3_3 v3_4) v5).1)]),(false,[tB ((an (GDag.mk v2_0 v2_1 v2_2 v2_3 v2_4 v2_5) (GRun.mk v3_0 (GSpan.mk v3_1 v3_2) v3_3 v3_4) v5).2)])]) (aQ (GDag.mk v2_0 v2_1 v2_2 v2_3 v2_4 v2_5) (GRun.mk v3_0 (GSpan.mk v3_1 v3_2) v3_3 v3_4) v5 h8 h9 h10 h11)<|AC h12<|AC h13<|AC h14<|AC h15<|AN)
theorem yb {q0:Kd} (v2_0 v2_1:ByteArray) (v2_2 v2_3:Int) (v2_4:Bool) (v2_5:List GTask) (v3_0:ByteArray) (v3_1 v3_2 v3_3:Int) (v3_4:List GState) (v5:Int) (g0:GState) (g1:GTask) (h0:(decide (v5<(v3_4.length:Int)))=true) (h1:aq v3_4 v5=some g0) (h2:(ag g0.f0 (0:Int) (4:Int))=true) (h3:aq v2_5 v5=some g1) (h4:(ag g0.f1 (0:Int) (inc g1.f2))=true) (h5:(ag g0.f2 (0:Int) (1000000000:Int))=true) (h6:(!((decide (g0.f2>(0:Int)))==(g0.f0==(1:Int))))=false) (h7:(ag g0.f3 (0:Int) (68374179:Int))=false):aw (ao q0 v2_0 v2_1 v2_2 v2_3 v2_4 v2_5 v3_0 v3_1 v3_2 v3_3 v3_4 v5) .ret (aC q0 false) :=
 RP [.val (.int .i64 (v3_4.length:Int)),.b true,.row (GState.t g0),rT,.row ((GTask.t q0) g1),rT,rT,.no,.no,.b false,rF] (ALn v3_4 GState.t<|AC h0<|AR GState.t h1<|AD (KJ (ah g0.f0 (0:Int) (4:Int)) h2)<|AR (GTask.t q0) h3<|AD (KJ (ah g0.f1 (0:Int) (inc g1.f2)) h4)<|AD (KJ (ah g0.f2 (0:Int) (1000000000:Int)) h5)<|AC h6<|AD (KJ (ah g0.f3 (0:Int) (68374179:Int)) h7)<|AN)
theorem yc {q0:Kd} (v2_0 v2_1:ByteArray) (v2_2 v2_3:Int) (v2_4:Bool) (v2_5:List GTask) (v3_0:ByteArray) (v3_1 v3_2 v3_3:Int) (v3_4:List GState) (v5:Int) (g0:GState) (g1:GTask) (h0:(decide (v5<(v3_4.length:Int)))=true) (h1:aq v3_4 v5=some g0) (h2:(ag g0.f0 (0:Int) (4:Int))=true) (h3:aq v2_5 v5=some g1) (h4:(ag g0.f1 (0:Int) (inc g1.f2))=true) (h5:(ag g0.f2 (0:Int) (1000000000:Int))=false):aw (ao q0 v2_0 v2_1 v2_2 v2_3 v2_4 v2_5 v3_0 v3_1 v3_2 v3_3 v3_4 v5) .ret (aC q0 false) :=
 RP [.val (.int .i64 (v3_4.length:Int)),.b true,.row (GState.t g0),rT,.row ((GTask.t q0) g1),rT,rF] (ALn v3_4 GState.t<|AC h0<|AR GState.t h1<|AD (KJ (ah g0.f0 (0:Int) (4:Int)) h2)<|AR (GTask.t q0) h3<|AD (KJ (ah g0.f1 (0:Int) (inc g1.f2)) h4)<|AD (KJ (ah g0.f2 (0:Int) (1000000000:Int)) h5)<|AN)
theorem yd {q0:Kd} (v2_0 v2_1:ByteArray) (v2_2 v2_3:Int) (v2_4:Bool) (v2_5:List GTask) (v3_0:ByteArray) (v3_1 v3_2 v3_3:Int) (v3_4:List GState) (v5:Int) (g0:GState) (g1:GTask) (h0:(decide (v5<(v3_4.length:Int)))=true) (h1:aq v3_4 v5=some g0) (h2:(ag g0.f0 (0:Int) (4:Int))=true) (h3:aq v2_5 v5=some g1) (h4:(ag g0.f1 (0:Int) (inc g1.f2))=false):aw (ao q0 v2_0 v2_1 v2_2 v2_3 v2_4 v2_5 v3_0 v3_1 v3_2 v3_3 v3_4 v5) .ret (aC q0 false) :=
 RP [.val (.int .i64 (v3_4.length:Int)),.b true,.row (GState.t g0),rT,.row ((GTask.t q0) g1),rF] (ALn v3_4 GState.t<|AC h0<|AR GState.t h1<|AD (KJ (ah g0.f0 (0:Int) (4:Int)) h2)<|AR (GTask.t q0) h3<|AD (KJ (ah g0.f1 (0:Int) (inc g1.f2)) h4)<|AN)
theorem ye {q0:Kd} (v2_0 v2_1:ByteArray) (v2_2 v2_3:Int) (v2_4:Bool) (v2_5:List GTask) (v3_0:ByteArray) (v3_1 v3_2 v3_3:Int) (v3_4:List GState) (v5:Int) (g0:GState) (h0:(decide (v5<(v3_4.length:Int)))=true) (h1:aq v3_4 v5=some g0) (h2:(ag g0.f0 (0:Int) (4:Int))=false):aw (ao q0 v2_0 v2_1 v2_2 v2_3 v2_4 v2_5 v3_0 v3_1 v3_2 v3_3 v3_4 v5) .ret (aC q0 false) :=
 RP [.val (.int .i64 (v3_4.length:Int)),.b true,.row (GState.t g0),rF] (ALn v3_4 GState.t<|AC h0<|AR GState.t h1<|AD (KJ (ah g0.f0 (0:Int) (4:Int)) h2)<|AN)
theorem yf {q0:Kd} (v2_0 v2_1:ByteArray) (v2_2 v2_3:Int) (v2_4:Bool) (v2_5:List GTask) (v3_0:ByteArray) (v3_1 v3_2 v3_3:Int) (v3_4:List GState) (v5:Int) (h0:(decide (v5<(v3_4.length:Int)))=false):aw (ao q0 v2_0 v2_1 v2_2 v2_3 v2_4 v2_5 v3_0 v3_1 v3_2 v3_3 v3_4 v5) (.exit 0) (kG q0) :=
 RP [.val (.int .i64 (v3_4.length:Int)),.b false] (ALn v3_4 GState.t<|AC h0<|AN)
noncomputable def ce (v2_0 v2_1:ByteArray) (v2_2 v2_3:Int) (v2_5:List GTask) (v3_0:ByteArray) (v3_1 v3_2 v3_3:Int) (v3_4:List GState):List GState→Nat→Bool→Option u6
 | [],i,v2_4=>some (.x0)
 | hd::rest,i,v2_4=>cond (ag hd.f0 (0:Int) (4:Int))
  ((aq v2_5 (i:Int)).bind fun g1=>cond (ag hd.f1 (0:Int) (inc g1.f2))
   (cond (ag hd.f2 (0:Int) (1000000000:Int))
    (cond (!((decide (hd.f2>(0:Int)))==(hd.f0==(1:Int))))
     (some (.ret false))
     (cond (ag hd.f3 (0:Int) (68374179:Int))
      (if ak.sm (GDag.mk v2_0 v2_1 v2_2 v2_3 v2_4 v2_5) then if aP (GDag.mk v2_0 v2_1 v2_2 v2_3 v2_4 v2_5)=true then if (GRun.mk v3_0 (GSpan.mk v3_1 v3_2) v3_3 v3_4).f3.length=(GDag.mk v2_0 v2_1 v2_2 v2_3 v2_4 v2_5).f5.length then if 0≤(i:Int)∧(i:Int)<((GDag.mk v2_0 v2_1 v2_2 v2_3 v2_4 v2_5).f5.length:Int) then cond (hd.f0==(1:Int))
       (cond ((an (GDag.mk v2_0 v2_1 v2_2 v2_3 v2_4 v2_5) (GRun.mk v3_0 (GSpan.mk v3_1 v3_2) v3_3 v3_4) (i:Int)).1)
        (cond (hd.f0==(4:Int))
         (cond ((an (GDag.mk v2_0 v2_1 v2_2 v2_3 v2_4 v2_5) (GRun.mk v3_0 (GSpan.mk v3_1 v3_2) v3_3 v3_4) (i:Int)).2)
          (cond (hd.f0==(0:Int))
           (some (.ret false))
           (ce v2_0 v2_1 v2_2 v2_3 v2_5 v3_0 v3_1 v3_2 v3_3 v3_4 rest (i+1) v2_4))
          (some (.ret false)))
         (cond (hd.f0==(0:Int))
          (cond ((an (GDag.mk v2_0 v2_1 v2_2 v2_3 v2_4 v2_5) (GRun.mk v3_0 (GSpan.mk v3_1 v3_2) v3_3 v3_4) (i:Int)).2)
           (some (.ret false))
           (ce v2_0 v2_1 v2_2 v2_3 v2_5 v3_0 v3_1 v3_2 v3_3 v3_4 rest (i+1) v2_4))
          (ce v2_0 v2_1 v2_2 v2_3 v2_5 v3_0 v3_1 v3_2 v3_3 v3_4 rest (i+1) v2_4)))
        (some (.ret false)))
       (cond (hd.f0==(2:Int))
        (cond ((an (GDag.mk v2_0 v2_1 v2_2 v2_3 v2_4 v2_5) (GRun.mk v3_0 (GSpan.mk v3_1 v3_2) v3_3 v3_4) (i:Int)).1)
         (cond (hd.f0==(4:Int))
          (cond ((an (GDag.mk v2_0 v2_1 v2_2 v2_3 v2_4 v2_5) (GRun.mk v3_0 (GSpan.mk v3_1 v3_2) v3_3 v3_4) (i:Int)).2)
           (cond (hd.f0==(0:Int))
            (some (.ret false))
            (ce v2_0 v2_1 v2_2 v2_3 v2_5 v3_0 v3_1 v3_2 v3_3 v3_4 rest (i+1) v2_4))
           (some (.ret false)))
          (cond (hd.f0==(0:Int))
           (cond ((an (GDag.mk v2_0 v2_1 v2_2 v2_3 v2_4 v2_5) (GRun.mk v3_0 (GSpan.mk v3_1 v3_2) v3_3 v3_4) (i:Int)).2)
            (some (.ret false))
            (ce v2_0 v2_1 v2_2 v2_3 v2_5 v3_0 v3_1 v3_2 v3_3 v3_4 rest (i+1) v2_4))
           (ce v2_0 v2_1 v2_2 v2_3 v2_5 v3_0 v3_1 v3_2 v3_3 v3_4 rest (i+1) v2_4)))
         (some (.ret false)))
        (cond (hd.f0==(4:Int))
         (cond ((an (GDag.mk v2_0 v2_1 v2_2 v2_3 v2_4 v2_5) (GRun.mk v3_0 (GSpan.mk v3_1 v3_2) v3_3 v3_4) (i:Int)).2)
          (cond (hd.f0==(0:Int))
           (some (.ret false))
           (ce v2_0 v2_1 v2_2 v2_3 v2_5 v3_0 v3_1 v3_2 v3_3 v3_4 rest (i+1) v2_4))
          (some (.ret false)))
         (cond (hd.f0==(0:Int))
          (cond ((an (GDag.mk v2_0 v2_1 v2_2 v2_3 v2_4 v2_5) (GRun.mk v3_0 (GSpan.mk v3_1 v3_2) v3_3 v3_4) (i:Int)).2)
           (some (.ret false))
           (ce v2_0 v2_1 v2_2 v2_3 v2_5 v3_0 v3_1 v3_2 v3_3 v3_4 rest (i+1) v2_4))
          (ce v2_0 v2_1 v2_2 v2_3 v2_5 v3_0 v3_1 v3_2 v3_3 v3_4 rest (i+1) v2_4)))) else none else none else none else none)
      (some (.ret false))))
    (some (.ret false)))
   (some (.ret false)))
  (some (.ret false))
theorem Dy {q0:Kd} (v2_0 v2_1:ByteArray) (v2_2 v2_3:Int) (v2_5:List GTask) (v3_0:ByteArray) (v3_1 v3_2 v3_3:Int) (v3_4:List GState) (rest:List GState):∀ (i:Nat) (v2_4:Bool),(v3_4).drop i=rest→v3_4.length≤9223372036854775807→Ans (ce v2_0 v2_1 v2_2 v2_3 v2_5 v3_0 v3_1 v3_2 v3_3 v3_4 rest i v2_4) (Dz (q0:=q0) v2_0 v2_1 v2_2 v2_3 v2_4 v2_5 v3_0 v3_1 v3_2 v3_3 v3_4 (i:Int)):=by
 induction rest with
 | nil =>
  intro i v2_4 hE hl
  have hb:=br hE
  unfold ce
  exact KB (KD (show aw (ao q0 v2_0 v2_1 v2_2 v2_3 v2_4 v2_5 v3_0 v3_1 v3_2 v3_3 v3_4 (i:Int)) (.exit 0) (kG q0) from yf (q0:=q0) v2_0 v2_1 v2_2 v2_3 v2_4 v2_5 v3_0 v3_1 v3_2 v3_3 v3_4 (i:Int) hb) (by intro h;cases h))
 | cons hd rest ih =>
  intro i v2_4 hE hl
  have hb:=bd hE
  have hw:=be hE hl
  have hE2:=aJ hE
  have hg:=ba hE
  unfold ce
  apply KE<;>intro h2
  ·refine KF (fun g1 h3 => ?_)
   apply KE<;>intro h4
   ·apply KE<;>intro h5
    ·apply KE<;>intro h6
     ·exact KB (KD (show aw (ao q0 v2_0 v2_1 v2_2 v2_3 v2_4 v2_5 v3_0 v3_1 v3_2 v3_3 v3_4 (i:Int)) .ret (aC q0 false) from zK (q0:=q0) v2_0 v2_1 v2_2 v2_3 v2_4 v2_5 v3_0 v3_1 v3_2 v3_3 v3_4 (i:Int) hd g1 hb hg h2 h3 h4 h5 h6) (by intro h;cases h))
     ·apply KE<;>intro h7
      ·refine KG (fun h8 => ?_)
       refine KG (fun h9 => ?_)
       refine KG (fun h10 => ?_)
       refine KG (fun h11 => ?_)
       apply KE<;>intro f1
       ·apply KE<;>intro h12
        ·apply KE<;>intro f2
         ·apply KE<;>intro h13
          ·apply KE<;>intro h16
           ·exact KB (KD (show aw (ao q0 v2_0 v2_1 v2_2 v2_3 v2_4 v2_5 v3_0 v3_1 v3_2 v3_3 v3_4 (i:Int)) .ret (aC q0 false) from zL (q0:=q0) v2_0 v2_1 v2_2 v2_3 v2_4 v2_5 v3_0 v3_1 v3_2 v3_3 v3_4 (i:Int) hd g1 hb hg h2 h3 h4 h5 h6 h7 h8 h9 h10 h11 h12 h13 f1 f2 h16) (by intro h;cases h))
           ·exact (ih (i+1) v2_4 hE2 hl).mono fun y hy=>by have r:aw (ao q0 v2_0 v2_1 v2_2 v2_3 v2_4 v2_5 v3_0 v3_1 v3_2 v3_3 v3_4 (i:Int)) .normal (ao q0 v2_0 v2_1 v2_2 v2_3 v2_4 v2_5 v3_0 v3_1 v3_2 v3_3 v3_4 (inc (i:Int))):=zM (q0:=q0) v2_0 v2_1 v2_2 v2_3 v2_4 v2_5 v3_0 v3_1 v3_2 v3_3 v3_4 (i:Int) hd g1 hb hg h2 h3 h4 h5 h6 h7 h8 h9 h10 h11 h12 h13 f1 f2 h16;rw [hw] at r;cases y<;>exact KC r hy
          ·exact KB (KD (show aw (ao q0 v2_0 v2_1 v2_2 v2_3 v2_4 v2_5 v3_0 v3_1 v3_2 v3_3 v3_4 (i:Int)) .ret (aC q0 false) from zN (q0:=q0) v2_0 v2_1 v2_2 v2_3 v2_4 v2_5 v3_0 v3_1 v3_2 v3_3 v3_4 (i:Int) hd g1 hb hg h2 h3 h4 h5 h6 h7 h8 h9 h10 h11 h12 h13 f1 f2) (by intro h;cases h))
         ·apply KE<;>intro f3
          ·apply KE<;>intro h13
           ·exact KB (KD (show aw (ao q0 v2_0 v2_1 v2_2 v2_3 v2_4 v2_5 v3_0 v3_1 v3_2 v3_3 v3_4 (i:Int)) .ret (aC q0 false) from zO (q0:=q0) v2_0 v2_1 v2_2 v2_3 v2_4 v2_5 v3_0 v3_1 v3_2 v3_3 v3_4 (i:Int) hd g1 hb hg h2 h3 h4 h5 h6 h7 h8 h9 h10 h11 h12 h13 f1 f2 f3) (by intro h;cases h))
           ·exact (ih (i+1) v2_4 hE2 hl).mono fun y hy=>by have r:aw (ao q0 v2_0 v2_1 v2_2 v2_3 v2_4 v2_5 v3_0 v3_1 v3_2 v3_3 v3_4 (i:Int)) .normal (ao q0 v2_0 v2_1 v2_2 v2_3 v2_4 v2_5 v3_0 v3_1 v3_2 v3_3 v3_4 (inc (i:Int))):=zP (q0:=q0) v2_0 v2_1 v2_2 v2_3 v2_4 v2_5 v3_0 v3_1 v3_2 v3_3 v3_4 (i:Int) hd g1 hb hg h2 h3 h4 h5 h6 h7 h8 h9 h10 h11 h12 h13 f1 f2 f3;rw [hw] at r;cases y<;>exact KC r hy
          ·exact (ih (i+1) v2_4 hE2 hl).mono fun y hy=>by have r:aw (ao q0 v2_0 v2_1 v2_2 v2_3 v2_4 v2_5 v3_0 v3_1 v3_2 v3_3 v3_4 (i:Int)) .normal (ao q0 v2_0 v2_1 v2_2 v2_3 v2_4 v2_5 v3_0 v3_1 v3_2 v3_3 v3_4 (inc (i:Int))):=zQ (q0:=q0) v2_0 v2_1 v2_2 v2_3 v2_4 v2_5 v3_0 v3_1 v3_2 v3_3 v3_4 (i:Int) hd g1 hb hg h2 h3 h4 h5 h6 h7 h8 h9 h10 h11 h12 f1 f2 f3;rw [hw] at r;cases y<;>exact KC r hy
        ·exact KB (KD (show aw (ao q0 v2_0 v2_1 v2_2 v2_3 v2_4 v2_5 v3_0 v3_1 v3_2 v3_3 v3_4 (i:Int)) .ret (aC q0 false) from zR (q0:=q0) v2_0 v2_1 v2_2 v2_3 v2_4 v2_5 v3_0 v3_1 v3_2 v3_3 v3_4 (i:Int) hd g1 hb hg h2 h3 h4 h5 h6 h7 h8 h9 h10 h11 h12 f1) (by intro h;cases h))
       ·apply KE<;>intro f4
        ·apply KE<;>intro h12
         ·apply KE<;>intro f5
          ·apply KE<;>intro h13
           ·apply KE<;>intro h17
            ·exact KB (KD (show aw (ao q0 v2_0 v2_1 v2_2 v2_3 v2_4 v2_5 v3_0 v3_1 v3_2 v3_3 v3_4 (i:Int)) .ret (aC q0 false) from zS (q0:=q0) v2_0 v2_1 v2_2 v2_3 v2_4 v2_5 v3_0 v3_1 v3_2 v3_3 v3_4 (i:Int) hd g1 hb hg h2 h3 h4 h5 h6 h7 h8 h9 h10 h11 h12 h13 f1 f4 f5 h17) (by intro h;cases h))
            ·exact (ih (i+1) v2_4 hE2 hl).mono fun y hy=>by have r:aw (ao q0 v2_0 v2_1 v2_2 v2_3 v2_4 v2_5 v3_0 v3_1 v3_2 v3_3 v3_4 (i:Int)) .normal (ao q0 v2_0 v2_1 v2_2 v2_3 v2_4 v2_5 v3_0 v3_1 v3_2 v3_3 v3_4 (inc (i:Int))):=zU (q0:=q0) v2_0 v2_1 v2_2 v2_3 v2_4 v2_5 v3_0 v3_1 v3_2 v3_3 v3_4 (i:Int) hd g1 hb hg h2 h3 h4 h5 h6 h7 h8 h9 h10 h11 h12 h13 f1 f4 f5 h17;rw [hw] at r;cases y<;>exact KC r hy
           ·exact KB (KD (show aw (ao q0 v2_0 v2_1 v2_2 v2_3 v2_4 v2_5 v3_0 v3_1 v3_2 v3_3 v3_4 (i:Int)) .ret (aC q0 false) from xV (q0:=q0) v2_0 v2_1 v2_2 v2_3 v2_4 v2_5 v3_0 v3_1 v3_2 v3_3 v3_4 (i:Int) hd g1 hb hg h2 h3 h4 h5 h6 h7 h8 h9 h10 h11 h12 h13 f1 f4 f5) (by intro h;cases h))
          ·apply KE<;>intro f6
           ·apply KE<;>intro h13
            ·exact KB (KD (show aw (ao q0 v2_0 v2_1 v2_2 v2_3 v2_4 v2_5 v3_0 v3_1 v3_2 v3_3 v3_4 (i:Int)) .ret (aC q0 false) from xW (q0:=q0) v2_0 v2_1 v2_2 v2_3 v2_4 v2_5 v3_0 v3_1 v3_2 v3_3 v3_4 (i:Int) hd g1 hb hg h2 h3 h4 h5 h6 h7 h8 h9 h10 h11 h12 h13 f1 f4 f5 f6) (by intro h;cases h))
            ·exact (ih (i+1) v2_4 hE2 hl).mono fun y hy=>by have r:aw (ao q0 v2_0 v2_1 v2_2 v2_3 v2_4 v2_5 v3_0 v3_1 v3_2 v3_3 v3_4 (i:Int)) .normal (ao q0 v2_0 v2_1 v2_2 v2_3 v2_4 v2_5 v3_0 v3_1 v3_2 v3_3 v3_4 (inc (i:Int))):=xX (q0:=q0) v2_0 v2_1 v2_2 v2_3 v2_4 v2_5 v3_0 v3_1 v3_2 v3_3 v3_4 (i:Int) hd g1 hb hg h2 h3 h4 h5 h6 h7 h8 h9 h10 h11 h12 h13 f1 f4 f5 f6;rw [hw] at r;cases y<;>exact KC r hy
           ·exact (ih (i+1) v2_4 hE2 hl).mono fun y hy=>by have r:aw (ao q0 v2_0 v2_1 v2_2 v2_3 v2_4 v2_5 v3_0 v3_1 v3_2 v3_3 v3_4 (i:Int)) .normal (ao q0 v2_0 v2_1 v2_2 v2_3 v2_4 v2_5 v3_0 v3_1 v3_2 v3_3 v3_4 (inc (i:Int))):=xY (q0:=q0) v2_0 v2_1 v2_2 v2_3 v2_4 v2_5 v3_0 v3_1 v3_2 v3_3 v3_4 (i:Int) hd g1 hb hg h2 h3 h4 h5 h6 h7 h8 h9 h10 h11 h12 f1 f4 f5 f6;rw [hw] at r;cases y<;>exact KC r hy
         ·exact KB (KD (show aw (ao q0 v2_0 v2_1 v2_2 v2_3 v2_4 v2_5 v3_0 v3_1 v3_2 v3_3 v3_4 (i:Int)) .ret (aC q0 false) from xZ (q0:=q0) v2_0 v2_1 v2_2 v2_3 v2_4 v2_5 v3_0 v3_1 v3_2 v3_3 v3_4 (i:Int) hd g1 hb hg h2 h3 h4 h5 h6 h7 h8 h9 h10 h11 h12 f1 f4) (by intro h;cases h))
        ·apply KE<;>intro f7
         ·apply KE<;>intro h12
          ·apply KE<;>intro h16
           ·exact KB (KD (show aw (ao q0 v2_0 v2_1 v2_2 v2_3 v2_4 v2_5 v3_0 v3_1 v3_2 v3_3 v3_4 (i:Int)) .ret (aC q0 false) from x5 (q0:=q0) v2_0 v2_1 v2_2 v2_3 v2_4 v2_5 v3_0 v3_1 v3_2 v3_3 v3_4 (i:Int) hd g1 hb hg h2 h3 h4 h5 h6 h7 h8 h9 h10 h11 h12 f1 f4 f7 h16) (by intro h;cases h))
           ·exact (ih (i+1) v2_4 hE2 hl).mono fun y hy=>by have r:aw (ao q0 v2_0 v2_1 v2_2 v2_3 v2_4 v2_5 v3_0 v3_1 v3_2 v3_3 v3_4 (i:Int)) .normal (ao q0 v2_0 v2_1 v2_2 v2_3 v2_4 v2_5 v3_0 v3_1 v3_2 v3_3 v3_4 (inc (i:Int))):=x6 (q0:=q0) v2_0 v2_1 v2_2 v2_3 v2_4 v2_5 v3_0 v3_1 v3_2 v3_3 v3_4 (i:Int) hd g1 hb hg h2 h3 h4 h5 h6 h7 h8 h9 h10 h11 h12 f1 f4 f7 h16;rw [hw] at r;cases y<;>exact KC r hy
          ·exact KB (KD (show aw (ao q0 v2_0 v2_1 v2_2 v2_3 v2_4 v2_5 v3_0 v3_1 v3_2 v3_3 v3_4 (i:Int)) .ret (aC q0 false) from x7 (q0:=q0) v2_0 v2_1 v2_2 v2_3 v2_4 v2_5 v3_0 v3_1 v3_2 v3_3 v3_4 (i:Int) hd g1 hb hg h2 h3 h4 h5 h6 h7 h8 h9 h10 h11 h12 f1 f4 f7) (by intro h;cases h))
         ·apply KE<;>intro f8
          ·apply KE<;>intro h12
           ·exact KB (KD (show aw (ao q0 v2_0 v2_1 v2_2 v2_3 v2_4 v2_5 v3_0 v3_1 v3_2 v3_3 v3_4 (i:Int)) .ret (aC q0 false) from x8 (q0:=q0) v2_0 v2_1 v2_2 v2_3 v2_4 v2_5 v3_0 v3_1 v3_2 v3_3 v3_4 (i:Int) hd g1 hb hg h2 h3 h4 h5 h6 h7 h8 h9 h10 h11 h12 f1 f4 f7 f8) (by intro h;cases h))
           ·exact (ih (i+1) v2_4 hE2 hl).mono fun y hy=>by have r:aw (ao q0 v2_0 v2_1 v2_2 v2_3 v2_4 v2_5 v3_0 v3_1 v3_2 v3_3 v3_4 (i:Int)) .normal (ao q0 v2_0 v2_1 v2_2 v2_3 v2_4 v2_5 v3_0 v3_1 v3_2 v3_3 v3_4 (inc (i:Int))):=x9 (q0:=q0) v2_0 v2_1 v2_2 v2_3 v2_4 v2_5 v3_0 v3_1 v3_2 v3_3 v3_4 (i:Int) hd g1 hb hg h2 h3 h4 h5 h6 h7 h8 h9 h10 h11 h12 f1 f4 f7 f8;rw [hw] at r;cases y<;>exact KC r hy
          ·exact (ih (i+1) v2_4 hE2 hl).mono fun y hy=>by have r:aw (ao q0 v2_0 v2_1 v2_2 v2_3 v2_4 v2_5 v3_0 v3_1 v3_2 v3_3 v3_4 (i:Int)) .normal (ao q0 v2_0 v2_1 v2_2 v2_3 v2_4 v2_5 v3_0 v3_1 v3_2 v3_3 v3_4 (inc (i:Int))):=ya (q0:=q0) v2_0 v2_1 v2_2 v2_3 v2_4 v2_5 v3_0 v3_1 v3_2 v3_3 v3_4 (i:Int) hd g1 hb hg h2 h3 h4 h5 h6 h7 h8 h9 h10 h11 f1 f4 f7 f8;rw [hw] at r;cases y<;>exact KC r hy
      ·exact KB (KD (show aw (ao q0 v2_0 v2_1 v2_2 v2_3 v2_4 v2_5 v3_0 v3_1 v3_2 v3_3 v3_4 (i:Int)) .ret (aC q0 false) from yb (q0:=q0) v2_0 v2_1 v2_2 v2_3 v2_4 v2_5 v3_0 v3_1 v3_2 v3_3 v3_4 (i:Int) hd g1 hb hg h2 h3 h4 h5 h6 h7) (by intro h;cases h))
    ·exact KB (KD (show aw (ao q0 v2_0 v2_1 v2_2 v2_3 v2_4 v2_5 v3_0 v3_1 v3_2 v3_3 v3_4 (i:Int)) .ret (aC q0 false) from yc (q0:=q0) v2_0 v2_1 v2_2 v2_3 v2_4 v2_5 v3_0 v3_1 v3_2 v3_3 v3_4 (i:Int) hd g1 hb hg h2 h3 h4 h5) (by intro h;cases h))
   ·exact KB (KD (show aw (ao q0 v2_0 v2_1 v2_2 v2_3 v2_4 v2_5 v3_0 v3_1 v3_2 v3_3 v3_4 (i:Int)) .ret (aC q0 false) from yd (q0:=q0) v2_0 v2_1 v2_2 v2_3 v2_4 v2_5 v3_0 v3_1 v3_2 v3_3 v3_4 (i:Int) hd g1 hb hg h2 h3 h4) (by intro h;cases h))
  ·exact KB (KD (show aw (ao q0 v2_0 v2_1 v2_2 v2_3 v2_4 v2_5 v3_0 v3_1 v3_2 v3_3 v3_4 (i:Int)) .ret (aC q0 false) from ye (q0:=q0) v2_0 v2_1 v2_2 v2_3 v2_4 v2_5 v3_0 v3_1 v3_2 v3_3 v3_4 (i:Int) hd hb hg h2) (by intro h;cases h))
noncomputable def nV (x0:GDag) (x1:GRun):Option (Bool) :=
  cond (!(x1.f0.toList==x0.f0.toList))
   (some (false))
   (cond (nb x1.f1)
    (cond (ag x1.f2 (0:Int) (1000:Int))
     (cond ((x1.f3.length:Int) != (x0.f5.length:Int))
      (some (false))
      (if x1.f3.length≤9223372036854775807 then (ce x0.f0 x0.f1 x0.f2 x0.f3 x0.f5 x1.f0 x1.f1.f0 x1.f1.f1 x1.f2 x1.f3 x1.f3 0 x0.f4).bind fun y=>match y with
       | .ret w0_4=>(some (w0_4))
       | .x0=>(some (true)) else none))
     (some (false)))
    (some (false)))
theorem Fy {q0:Kd} (x0:GDag) (x1:GRun):Ans (nV x0 x1) (fun r=>Does E 36 [.agg (GDag.t .far q0 x0),.agg (GRun.t .far x1)] [(false,[tB r])]):=by
 unfold nV
 apply KE<;>intro h0
 ·exact KB (DP Tryz.f36 [.b true] (AC h0<|AN))
 ·apply KE<;>intro h1
  ·apply KE<;>intro h2
   ·apply KE<;>intro h3
    ·exact KB (DP Tryz.f36 [.b false,rT,rT,.val (.int .i64 (x1.f3.length:Int)),.val (.int .i64 (x0.f5.length:Int)),.b true] (AC h0<|AD (KJ (ke x1.f1) h1)<|AD (KJ (ah x1.f2 (0:Int) (1000:Int)) h2)<|ALn x1.f3 GState.t<|ALn x0.f5 (GTask.t q0)<|AC h3<|AN))
    ·refine KG (fun hl5 => ?_)
     refine KF (fun y hy => ?_)
     replace hy:=Dy (q0:=q0) x0.f0 x0.f1 x0.f2 x0.f3 x0.f5 x1.f0 x1.f1.f0 x1.f1.f1 x1.f2 x1.f3 x1.f3 0 x0.f4 rfl hl5 y hy
     cases y with
     | ret w0_4 =>
      have h4:=hy
      exact KB (DP Tryz.f36 [.b false,rT,rT,.val (.int .i64 (x1.f3.length:Int)),.val (.int .i64 (x0.f5.length:Int)),.b false,.lp .ret (aC q0 w0_4)] (AC h0<|AD (KJ (ke x1.f1) h1)<|AD (KJ (ah x1.f2 (0:Int) (1000:Int)) h2)<|ALn x1.f3 GState.t<|ALn x0.f5 (GTask.t q0)<|AC h3<|AL h4<|AN))
     | x0 =>
      have h4:=hy
      exact KB (DP Tryz.f36 [.b false,rT,rT,.val (.int .i64 (x1.f3.length:Int)),.val (.int .i64 (x0.f5.length:Int)),.b false,.lp (.exit 0) (kG q0)] (AC h0<|AD (KJ (ke x1.f1) h1)<|AD (KJ (ah x1.f2 (0:Int) (1000:Int)) h2)<|ALn x1.f3 GState.t<|ALn x0.f5 (GTask.t q0)<|AC h3<|AL h4<|AN))
   ·exact KB (DP Tryz.f36 [.b false,rT,rF] (AC h0<|AD (KJ (ke x1.f1) h1)<|AD (KJ (ah x1.f2 (0:Int) (1000:Int)) h2)<|AN))
  ·exact KB (DP Tryz.f36 [.b false,rF] (AC h0<|AD (KJ (ke x1.f1) h1)<|AN))
def FA (x:GState) (m:Int) (done bad:Bool):Bool :=
 ag x.f0 0 4&&(ag x.f1 0 m&&(ag x.f2 0 1000000000&&((decide (x.f2>0)==(x.f0==1))&&(ag x.f3 0 68374179&&(cond (x.f0==1 || x.f0==2) done (cond (x.f0==4) bad (cond (x.f0==0) (!bad) true)))))))
noncomputable def lk (d:GDag) (r:GRun) (i:Int):Bool:=match aq r.f3 i,aq d.f5 i with
 | some x,some t=>FA x (inc t.f2) (aF d r i).1 (bR d r i).2
 | _,_=>false
theorem tM {x:Int} {a b:Int} (h:(x==a)=true) (hn:a≠b):(x==b)=false:=by
 rw [beq_iff_eq] at h
 rw [beq_eq_false_iff_ne]
 omega
theorem G4 (d:GDag) (r:GRun) (i:Int) (h:ak.sm d) (hd:aP d=true) (hl:r.f3.length=d.f5.length) (hi:0≤i∧i<(d.f5.length:Int)):mO d r i=some (lk d r i):=by
 obtain ⟨t,ht,_⟩:=eY hi
 obtain ⟨x,hx,_⟩:=eY (l:=r.f3) (k:=i) (by omega)
 unfold mO lk FA
 simp only [ht,hx,Option.bind_some,if_pos h,if_pos hd,if_pos hl,if_pos hi]
 cases ag x.f0 0 4<;>cases ag x.f1 0 (inc t.f2)<;>cases ag x.f2 0 1000000000<;>cases ag x.f3 0 68374179<;>cases (decide (x.f2>0)==(x.f0==1))<;>try rfl
 cases x.f0==1<;>cases x.f0==2<;>cases x.f0==4<;>cases x.f0==0<;>rfl
theorem uq {q0:Kd} (x0:GDag) (x1:GRun) (x2:Int) (h:ak.sm x0) (hd:aP x0=true) (hl:x1.f3.length=x0.f5.length) (hi:0≤x2∧x2<(x0.f5.length:Int)):Does E 62 [.agg (GDag.t .far q0 x0),.agg (GRun.t .far x1),.one (tI x2)] [(false,[tB (lk x0 x1 x2)])]:=by
 exact C7 x0 x1 x2 _ (G4 x0 x1 x2 h hd hl hi)
inductive wy where
 | ret (v4:Bool)
 | x0 
def jG (q0:Kd) (v2_0 v2_1:ByteArray) (v2_2 v2_3:Int) (v2_4:Bool) (v2_5:List GTask) (v3_0:ByteArray) (v3_1 v3_2 v3_3:Int) (v3_4:List GState) (v34 v35:Int):US:=stL 44 [(2,.box () [tS v2_0,tS v2_1,tI v2_2,tI v2_3,tB v2_4,.s .far () 5 (v2_5.map (GTask.t q0))]),(3,.box () [tS v3_0,tI v3_1,tI v3_2,tI v3_3,.s .far () 4 (v3_4.map GState.t)]),(34,.one (tI v34)),(35,.one (tI v35))]
def nl (q0:Kd) (zv4:Bool):US:=stL 44 [(4,.one (tB zv4))]
def oz (q0:Kd)  : US:=stL 44 []
abbrev rf:US→Exit→US→Prop:=Round E 38 (az Tryz.f38 0)
def E6 {q0:Kd} (v2_0 v2_1:ByteArray) (v2_2 v2_3:Int) (v2_4:Bool) (v2_5:List GTask) (v3_0:ByteArray) (v3_1 v3_2 v3_3:Int) (v3_4:List GState) (v34 v35:Int):wy→Prop
 | .ret zv4=>Loops E 38 (az Tryz.f38 0) (jG q0 v2_0 v2_1 v2_2 v2_3 v2_4 v2_5 v3_0 v3_1 v3_2 v3_3 v3_4 v34 v35) .ret (nl q0 zv4)
 | .x0=>Loops E 38 (az Tryz.f38 0) (jG q0 v2_0 v2_1 v2_2 v2_3 v2_4 v2_5 v3_0 v3_1 v3_2 v3_3 v3_4 v34 v35) (.exit 0) (oz q0)
noncomputable def ii (v2_0 v2_1:ByteArray) (v2_2 v2_3:Int) (v2_5:List GTask) (v3_0:ByteArray) (v3_1 v3_2 v3_3:Int) (v3_4:List GState):List GState→Nat→Bool→Option wy
 | [],i,v2_4=>some (.x0)
 | hd::rest,i,v2_4=>if ak.sm (GDag.mk v2_0 v2_1 v2_2 v2_3 v2_4 v2_5) then if aP (GDag.mk v2_0 v2_1 v2_2 v2_3 v2_4 v2_5)=true then if (GRun.mk v3_0 (GSpan.mk v3_1 v3_2) v3_3 v3_4).f3.length=(GDag.mk v2_0 v2_1 v2_2 v2_3 v2_4 v2_5).f5.length then if 0≤(i:Int)∧(i:Int)<((GDag.mk v2_0 v2_1 v2_2 v2_3 v2_4 v2_5).f5.length:Int) then cond (lk (GDag.mk v2_0 v2_1 v2_2 v2_3 v2_4 v2_5) (GRun.mk v3_0 (GSpan.mk v3_1 v3_2) v3_3 v3_4) (i:Int))
  (ii v2_0 v2_1 v2_2 v2_3 v2_5 v3_0 v3_1 v3_2 v3_3 v3_4 rest (i+1) v2_4)
  (some (.ret false)) else none else none else none else none
theorem E5 {q0:Kd} (v2_0 v2_1:ByteArray) (v2_2 v2_3:Int) (v2_5:List GTask) (v3_0:ByteArray) (v3_1 v3_2 v3_3:Int) (v3_4:List GState) (rest:List GState):∀ (i:Nat) (v2_4:Bool),(v3_4).drop i=rest→v3_4.length≤9223372036854775807→Ans (ii v2_0 v2_1 v2_2 v2_3 v2_5 v3_0 v3_1 v3_2 v3_3 v3_4 rest i v2_4) (E6 (q0:=q0) v2_0 v2_1 v2_2 v2_3 v2_4 v2_5 v3_0 v3_1 v3_2 v3_3 v3_4 (v3_4.length:Int) (i:Int)):=by
 induction rest with
 | nil =>
  intro i v2_4 hE hl
  have hb:=br hE
  unfold ii
  exact KB (KD (show rf (jG q0 v2_0 v2_1 v2_2 v2_3 v2_4 v2_5 v3_0 v3_1 v3_2 v3_3 v3_4 (v3_4.length:Int) (i:Int)) (.exit 0) (oz q0) from RP [.b false] (AC hb<|AN)) (by intro h;cases h))
 | cons hd rest ih =>
  intro i v2_4 hE hl
  have hb:=bd hE
  have hw:=be hE hl
  have hE2:=aJ hE
  have hg:=ba hE
  unfold ii
  refine KG (fun h1 => ?_)
  refine KG (fun h2 => ?_)
  refine KG (fun h3 => ?_)
  refine KG (fun h4 => ?_)
  apply KE<;>intro h5
  ·exact (ih (i+1) v2_4 hE2 hl).mono fun y hy=>by have r:rf (jG q0 v2_0 v2_1 v2_2 v2_3 v2_4 v2_5 v3_0 v3_1 v3_2 v3_3 v3_4 (v3_4.length:Int) (i:Int)) .normal (jG q0 v2_0 v2_1 v2_2 v2_3 v2_4 v2_5 v3_0 v3_1 v3_2 v3_3 v3_4 (v3_4.length:Int) (inc (i:Int))):=RP [.b true,rT] (AC hb<|AV (ψ:=fun k=>E.C k 62 [.agg (GDag.t .far q0 (GDag.mk v2_0 v2_1 v2_2 v2_3 v2_4 v2_5)),.agg (GRun.t .far (GRun.mk v3_0 (GSpan.mk v3_1 v3_2) v3_3 v3_4)),.one (tI (i:Int))]=some [(false,[tB true])]) (KH (uq (GDag.mk v2_0 v2_1 v2_2 v2_3 v2_4 v2_5) (GRun.mk v3_0 (GSpan.mk v3_1 v3_2) v3_3 v3_4) (i:Int) h1 h2 h3 h4) (by rw [h5]))<|AN);rw [hw] at r;cases y<;>exact KC r hy
  ·exact KB (KD (show rf (jG q0 v2_0 v2_1 v2_2 v2_3 v2_4 v2_5 v3_0 v3_1 v3_2 v3_3 v3_4 (v3_4.length:Int) (i:Int)) .ret (nl q0 false) from RP [.b true,rF] (AC hb<|AV (ψ:=fun k=>E.C k 62 [.agg (GDag.t .far q0 (GDag.mk v2_0 v2_1 v2_2 v2_3 v2_4 v2_5)),.agg (GRun.t .far (GRun.mk v3_0 (GSpan.mk v3_1 v3_2) v3_3 v3_4)),.one (tI (i:Int))]=some [(false,[tB false])]) (KH (uq (GDag.mk v2_0 v2_1 v2_2 v2_3 v2_4 v2_5) (GRun.mk v3_0 (GSpan.mk v3_1 v3_2) v3_3 v3_4) (i:Int) h1 h2 h3 h4) (by rw [h5]))<|AN)) (by intro h;cases h))
noncomputable def po (x0:GDag) (x1:GRun):Option (Bool) :=
  cond (!(x1.f0.toList==x0.f0.toList))
   (some (false))
   (cond (nb x1.f1)
    (cond (ag x1.f2 (0:Int) (1000:Int))
     (cond ((x1.f3.length:Int) != (x0.f5.length:Int))
      (some (false))
      (if x1.f3.length≤9223372036854775807 then (ii x0.f0 x0.f1 x0.f2 x0.f3 x0.f5 x1.f0 x1.f1.f0 x1.f1.f1 x1.f2 x1.f3 x1.f3 0 x0.f4).bind fun y=>match y with
       | .ret w0_4=>(some (w0_4))
       | .x0=>(some (true)) else none))
     (some (false)))
    (some (false)))
theorem Gm {q0:Kd} (x0:GDag) (x1:GRun):Ans (po x0 x1) (fun r=>Does E 38 [.agg (GDag.t .far q0 x0),.agg (GRun.t .far x1)] [(false,[tB r])]):=by
 unfold po
 apply KE<;>intro h0
 ·exact KB (DP Tryz.f38 [.b true] (AC h0<|AN))
 ·apply KE<;>intro h1
  ·apply KE<;>intro h2
   ·apply KE<;>intro h3
    ·exact KB (DP Tryz.f38 [.b false,rT,rT,.val (.int .i64 (x1.f3.length:Int)),.val (.int .i64 (x0.f5.length:Int)),.b true] (AC h0<|AD (KJ (lq x1.f1) h1)<|AD (KJ (ax x1.f2 (0:Int) (1000:Int)) h2)<|ALn x1.f3 GState.t<|ALn x0.f5 (GTask.t q0)<|AC h3<|AN))
    ·refine KG (fun hl5 => ?_)
     refine KF (fun y hy => ?_)
     replace hy:=E5 (q0:=q0) x0.f0 x0.f1 x0.f2 x0.f3 x0.f5 x1.f0 x1.f1.f0 x1.f1.f1 x1.f2 x1.f3 x1.f3 0 x0.f4 rfl hl5 y hy
     cases y with
     | ret w0_4 =>
      have h4:=hy
      exact KB (DP Tryz.f38 [.b false,rT,rT,.val (.int .i64 (x1.f3.length:Int)),.val (.int .i64 (x0.f5.length:Int)),.b false,.val (.int .i64 (x1.f3.length:Int)),.lp .ret (nl q0 w0_4)] (AC h0<|AD (KJ (lq x1.f1) h1)<|AD (KJ (ax x1.f2 (0:Int) (1000:Int)) h2)<|ALn x1.f3 GState.t<|ALn x0.f5 (GTask.t q0)<|AC h3<|ALn x1.f3 GState.t<|AL h4<|AN))
     | x0 =>
      have h4:=hy
      exact KB (DP Tryz.f38 [.b false,rT,rT,.val (.int .i64 (x1.f3.length:Int)),.val (.int .i64 (x0.f5.length:Int)),.b false,.val (.int .i64 (x1.f3.length:Int)),.lp (.exit 0) (oz q0)] (AC h0<|AD (KJ (lq x1.f1) h1)<|AD (KJ (ax x1.f2 (0:Int) (1000:Int)) h2)<|ALn x1.f3 GState.t<|ALn x0.f5 (GTask.t q0)<|AC h3<|ALn x1.f3 GState.t<|AL h4<|AN))
   ·exact KB (DP Tryz.f38 [.b false,rT,rF] (AC h0<|AD (KJ (lq x1.f1) h1)<|AD (KJ (ax x1.f2 (0:Int) (1000:Int)) h2)<|AN))
  ·exact KB (DP Tryz.f38 [.b false,rF] (AC h0<|AD (KJ (lq x1.f1) h1)<|AN))
noncomputable def gC (d:GDag) (r:GRun):List GState→Nat→Bool
 | [],_=>true
 | _::l,i=>lk d r (i:Int)&&gC d r l (i+1)
noncomputable def ee (d:GDag) (r:GRun):Bool :=
 (r.f0.toList==d.f0.toList)&&(nb r.f1&&(ag r.f2 0 1000&&(((r.f3.length:Int)==(d.f5.length:Int))&&gC d r r.f3 0)))
theorem Ea (d:GDag) (r:GRun) (h:ak.sm d) (hd:aP d=true) (hl:r.f3.length=d.f5.length):∀ (l:List GState) (i:Nat),r.f3.drop i=l→ce d.f0 d.f1 d.f2 d.f3 d.f5 r.f0 r.f1.f0 r.f1.f1 r.f2 r.f3 l i d.f4=some (cond (gC d r l i) .x0 (.ret false))
 | [],i,_=>rfl
 | x::l,i,hdr=>by
  have e:GDag.mk d.f0 d.f1 d.f2 d.f3 d.f4 d.f5=d:=rfl
  have e2:GRun.mk r.f0 (GSpan.mk r.f1.f0 r.f1.f1) r.f2 r.f3=r:=rfl
  have hx:=ba hdr
  have hlt:=lD hdr
  have hi:0≤(i:Int)∧(i:Int)<(d.f5.length:Int):=by omega
  obtain ⟨t,ht,_⟩:=eY hi
  have ih:=Ea d r h hd hl l (i+1) (aJ hdr)
  have es:lk d r (i:Int)=FA x (inc t.f2) (aF d r (i:Int)).1 (bR d r (i:Int)).2:=by unfold lk;rw [hx,ht]
  have eu:an d r (i:Int)=((aF d r (i:Int)).1,(bR d r (i:Int)).2):=rfl
  unfold ce gC
  rw [es]
  unfold FA
  simp only [ht,Option.bind_some,e,e2,if_pos h,if_pos hd,if_pos hl,if_pos hi,ih,eu]
  cases ag x.f0 0 4<;>cases ag x.f1 0 (inc t.f2)<;>cases ag x.f2 0 1000000000<;>cases ag x.f3 0 68374179<;>cases (decide (x.f2>0)==(x.f0==1))<;>try rfl
  cases q1:x.f0==1
  ·cases q2:x.f0==2
   ·cases q4:x.f0==4
    ·cases x.f0==0<;>cases (bR d r (i:Int)).2<;>rfl
    ·rw [tM q4 (by decide:(4:Int)≠0)];cases (bR d r (i:Int)).2<;>rfl
   ·rw [tM q2 (by decide:(2:Int)≠4),tM q2 (by decide:(2:Int)≠0)];cases (aF d r (i:Int)).1<;>rfl
  ·rw [tM q1 (by decide:(1:Int)≠4),tM q1 (by decide:(1:Int)≠0)];cases (aF d r (i:Int)).1<;>rfl
theorem D9 (d:GDag) (r:GRun) (h:ak.sm d) (hd:aP d=true) (hl:r.f3.length=d.f5.length):∀ (l:List GState) (i:Nat),r.f3.drop i=l→ii d.f0 d.f1 d.f2 d.f3 d.f5 r.f0 r.f1.f0 r.f1.f1 r.f2 r.f3 l i d.f4=some (cond (gC d r l i) .x0 (.ret false))
 | [],i,_=>rfl
 | x::l,i,hdr=>by
  have e:GDag.mk d.f0 d.f1 d.f2 d.f3 d.f4 d.f5=d:=rfl
  have e2:GRun.mk r.f0 (GSpan.mk r.f1.f0 r.f1.f1) r.f2 r.f3=r:=rfl
  have hlt:=lD hdr
  have hi:0≤(i:Int)∧(i:Int)<(d.f5.length:Int):=by omega
  unfold ii gC
  simp only [e,e2,if_pos h,if_pos hd,if_pos hl,if_pos hi,D9 d r h hd hl l (i+1) (aJ hdr)]
  cases lk d r (i:Int)<;>rfl
theorem uW (d:GDag) (r:GRun) (h:ak.sm d) (hd:aP d=true):nV d r=some (ee d r)∧po d r=some (ee d r):=by
 have h4:=(vk hd).1
 unfold nV po ee
 cases r.f0.toList==d.f0.toList<;>cases nb r.f1<;>cases ag r.f2 0 1000<;>try exact ⟨rfl,rfl⟩
 have e:((r.f3.length:Int) != (d.f5.length:Int)) = !((r.f3.length:Int)==(d.f5.length:Int)):=rfl
 rw [e]
 cases q:((r.f3.length:Int)==(d.f5.length:Int)) with
 | false=>exact ⟨rfl,rfl⟩
 | true =>
  have hl:r.f3.length=d.f5.length:=by rw [beq_iff_eq] at q;omega
  simp only [Bool.not_true,cond_false,cond_true,Bool.not_false,Bool.true_and,if_pos (show r.f3.length≤9223372036854775807 by omega),Ea d r h hd hl r.f3 0 rfl,D9 d r h hd hl r.f3 0 rfl]
  cases gC d r r.f3 0<;>exact ⟨rfl,rfl⟩
theorem BW {d:GDag} {r:GRun} (h:ee d r=true):r.f3.length=d.f5.length:=by
 unfold ee at h
 simp only [Bool.and_eq_true,beq_iff_eq] at h
 omega
theorem Ep {q0:Kd} (x0:GDag) (x1:GRun) (h:ak.sm x0) (hd:aP x0=true):Does E 36 [.agg (GDag.t .far q0 x0),.agg (GRun.t .far x1)] [(false,[tB (ee x0 x1)])]:=by
 exact Fy x0 x1 _ (uW x0 x1 h hd).1
theorem FJ {q0:Kd} (x0:GDag) (x1:GRun) (h:ak.sm x0) (hd:aP x0=true):Does E 38 [.agg (GDag.t .far q0 x0),.agg (GRun.t .far x1)] [(false,[tB (ee x0 x1)])]:=by
 exact Gm x0 x1 _ (uW x0 x1 h hd).2
noncomputable def py (x0:GDag) (x1:GRun):Option (Bool) :=
  if ak.sm x0 then cond (aP x0)
   (if aP x0=true then some (ee x0 x1) else none)
   (some (false)) else none
theorem GS {q0:Kd} (x0:GDag) (x1:GRun):Ans (py x0 x1) (fun r=>Does E 17 [.agg (GDag.t .far q0 x0),.agg (GRun.t .far x1)] [(false,[tB r])]):=by
 unfold py
 refine KG (fun h0 => ?_)
 apply KE<;>intro h1
 ·refine KG (fun h2 => ?_)
  exact KB (DP Tryz.f17 [rT,.ret [(false,[tB (ee x0 x1)])]] (AV (ψ:=fun k=>E.C k 23 [.agg (GDag.t .far q0 x0)]=some [(false,[tB true])]) (KH (yr x0 h0) (by rw [h1]))<|AV (ψ:=fun k=>E.C k 36 [.agg (GDag.t .far q0 x0),.agg (GRun.t .far x1)]=some [(false,[tB (ee x0 x1)])]) (Ep x0 x1 h0 h2)<|AN))
 ·exact KB (DP Tryz.f17 [rF] (AV (ψ:=fun k=>E.C k 23 [.agg (GDag.t .far q0 x0)]=some [(false,[tB false])]) (KH (yr x0 h0) (by rw [h1]))<|AN))
noncomputable def pi (x0:GDag) (x1:GRun):Option (Bool) :=
  if ak.sm x0 then cond (aP x0)
   (if aP x0=true then some (ee x0 x1) else none)
   (some (false)) else none
theorem Gi {q0:Kd} (x0:GDag) (x1:GRun):Ans (pi x0 x1) (fun r=>Does E 19 [.agg (GDag.t .far q0 x0),.agg (GRun.t .far x1)] [(false,[tB r])]):=by
 unfold pi
 refine KG (fun h0 => ?_)
 apply KE<;>intro h1
 ·refine KG (fun h2 => ?_)
  exact KB (DP Tryz.f19 [rT,.ret [(false,[tB (ee x0 x1)])]] (AV (ψ:=fun k=>E.C k 27 [.agg (GDag.t .far q0 x0)]=some [(false,[tB true])]) (KH (yq x0 h0) (by rw [h1]))<|AV (ψ:=fun k=>E.C k 38 [.agg (GDag.t .far q0 x0),.agg (GRun.t .far x1)]=some [(false,[tB (ee x0 x1)])]) (FJ x0 x1 h0 h2)<|AN))
 ·exact KB (DP Tryz.f19 [rF] (AV (ψ:=fun k=>E.C k 27 [.agg (GDag.t .far q0 x0)]=some [(false,[tB false])]) (KH (yq x0 h0) (by rw [h1]))<|AN))
noncomputable def cT (d:GDag) (r:GRun):Bool:=aP d&&ee d r
theorem BV (d:GDag) (r:GRun) (h:ak.sm d):py d r=some (cT d r)∧pi d r=some (cT d r):=by
 unfold py pi cT
 cases aP d
 ·refine ⟨?_,?_⟩<;>simp only [if_pos h]<;>rfl
 ·refine ⟨?_,?_⟩<;>simp only [if_pos h,if_true]<;>rfl
theorem kZ {q0:Kd} (x0:GDag) (x1:GRun) (h:ak.sm x0):Does E 17 [.agg (GDag.t .far q0 x0),.agg (GRun.t .far x1)] [(false,[tB (cT x0 x1)])]:=by
 exact GS x0 x1 _ (BV x0 x1 h).1
theorem kX {q0:Kd} (x0:GDag) (x1:GRun) (h:ak.sm x0):Does E 19 [.agg (GDag.t .far q0 x0),.agg (GRun.t .far x1)] [(false,[tB (cT x0 x1)])]:=by
 exact Gi x0 x1 _ (BV x0 x1 h).2
end Go.Proofs.YtgaiiephdjllkaaGreatDoor.Am
