/- What stands above a task; what is blocked. -/
import Derived.Test.YtdcbjglpdbcjpaaGreatDoorPlans
namespace Go.Proofs.YtdcbjglpdbcjpaaGreatDoor.Am
open Go Go.Proofs Classical
set_option maxRecDepth 100000
set_option linter.unusedVariables false
set_option linter.unusedSimpArgs false
inductive BQ where
 | x0 (v5:List Int)
def rW (q0:Kd) (v2_0 v2_1:ByteArray) (v2_2 v2_3:Int) (v2_4:Bool) (v2_5:List GTask) (v5:List Int) (v13:List ByteArray) (v14 v15:Int):US:=stL 29 [(2,.box () [tS v2_0,tS v2_1,tI v2_2,tI v2_3,tB v2_4,.s .far () 5 (v2_5.map (GTask.t q0))]),(5,.one (.s .own () 1 (v5.map etI))),(13,.one (.s .far () 1 (v13.map etS))),(14,.one (tI v14)),(15,.one (tI v15))]
def rV (q0:Kd) (zv5:List Int):US:=stL 29 [(5,.one (.s .own () 1 (zv5.map etI)))]
abbrev BP:US→Exit→US→Prop:=Round E 72 (aw Tryz.f72 0)
def Ii {q0:Kd} (v2_0 v2_1:ByteArray) (v2_2 v2_3:Int) (v2_4:Bool) (v2_5:List GTask) (v5:List Int) (v13:List ByteArray) (v14 v15:Int):BQ→Prop
 | .x0 zv5=>Loops E 72 (aw Tryz.f72 0) (rW q0 v2_0 v2_1 v2_2 v2_3 v2_4 v2_5 v5 v13 v14 v15) (.exit 0) (rV q0 zv5)
noncomputable def jS (v2_0 v2_1:ByteArray) (v2_2 v2_3:Int) (v2_5:List GTask):List ByteArray→Nat→Bool→(List Int)→Option BQ
 | [],i,v2_4,v5=>some (.x0 v5)
 | hd::rest,i,v2_4,v5=>if (GDag.mk v2_0 v2_1 v2_2 v2_3 v2_4 v2_5).f5.length≤1050000 then if (v5.length+([bw (GDag.mk v2_0 v2_1 v2_2 v2_3 v2_4 v2_5) hd]).length)*8≤140737488355328∧v5.length+([bw (GDag.mk v2_0 v2_1 v2_2 v2_3 v2_4 v2_5) hd]).length≤4611686018427387904 then jS v2_0 v2_1 v2_2 v2_3 v2_5 rest (i+1) v2_4 (v5++([bw (GDag.mk v2_0 v2_1 v2_2 v2_3 v2_4 v2_5) hd])) else none else none
theorem Ih {q0:Kd} (v2_0 v2_1:ByteArray) (v2_2 v2_3:Int) (v2_5:List GTask) (v13:List ByteArray) (rest:List ByteArray):∀ (i:Nat) (v2_4:Bool) (v5:List Int),(v13).drop i=rest→v13.length≤9223372036854775807→Ans (jS v2_0 v2_1 v2_2 v2_3 v2_5 rest i v2_4 v5) (Ii (q0:=q0) v2_0 v2_1 v2_2 v2_3 v2_4 v2_5 v5 v13 (v13.length:Int) (i:Int)):=by
 induction rest with
 | nil =>
  intro i v2_4 v5 hE hl
  have hb:=bo hE
  unfold jS
  exact KX (KZ (show BP (rW q0 v2_0 v2_1 v2_2 v2_3 v2_4 v2_5 v5 v13 (v13.length:Int) (i:Int)) (.exit 0) (rV q0 v5) from RP [.b false] (AC hb<|AN)) (by intro h;cases h))
 | cons hd rest ih =>
  intro i v2_4 v5 hE hl
  have hb:=aY hE
  have hw:=aZ hE hl
  have hE2:=aH hE
  have hg:=bc hE
  unfold jS
  refine K2 (fun h2 => ?_)
  refine K2 (fun h3 => ?_)
  exact (ih (i+1) v2_4 (v5++([bw (GDag.mk v2_0 v2_1 v2_2 v2_3 v2_4 v2_5) hd])) hE2 hl).mono fun y hy=>by have r:BP (rW q0 v2_0 v2_1 v2_2 v2_3 v2_4 v2_5 v5 v13 (v13.length:Int) (i:Int)) .normal (rW q0 v2_0 v2_1 v2_2 v2_3 v2_4 v2_5 (v5++([bw (GDag.mk v2_0 v2_1 v2_2 v2_3 v2_4 v2_5) hd])) v13 (v13.length:Int) (inc (i:Int))):=RP [.b true,.row (etS hd),.ret [(false,[tI (bw (GDag.mk v2_0 v2_1 v2_2 v2_3 v2_4 v2_5) hd)])],.rows ((v5++([bw (GDag.mk v2_0 v2_1 v2_2 v2_3 v2_4 v2_5) hd])).map etI)] (AC hb<|AR etS hg<|AV (ψ:=fun k=>E.C k 49 [.agg (GDag.t .far q0 (GDag.mk v2_0 v2_1 v2_2 v2_3 v2_4 v2_5)),.one (tS hd)]=some [(false,[tI (bw (GDag.mk v2_0 v2_1 v2_2 v2_3 v2_4 v2_5) hd)])]) (eT (GDag.mk v2_0 v2_1 v2_2 v2_3 v2_4 v2_5) hd h2)<|AAp etI (fun _=>rfl) h3<|AN);rw [hw] at r;cases y<;>exact KY r hy
noncomputable def uY (x0:GDag) (x1:Int):Option ((List Int)) :=
  (aA x0.f5 x1).bind fun g0=>if g0.f4.length≤9223372036854775807 then (jS x0.f0 x0.f1 x0.f2 x0.f3 x0.f5 g0.f4 0 x0.f4 ([])).bind fun y=>match y with
   | .x0 w0_5=>(if w0_5.length<4611686018427387904 then some (dr w0_5) else none) else none
theorem I6 {q0:Kd} (x0:GDag) (x1:Int):Ans (uY x0 x1) (fun r=>Does E 72 [.agg (GDag.t .far q0 x0),.one (tI x1)] [(false,[.s .own () 1 (r.map etI)])]):=by
 unfold uY
 refine K1 (fun g0 h0 => ?_)
 refine K2 (fun hl1 => ?_)
 refine K1 (fun y hy => ?_)
 replace hy:=Ih (q0:=q0) x0.f0 x0.f1 x0.f2 x0.f3 x0.f5 g0.f4 g0.f4 0 x0.f4 ([]) rfl hl1 y hy
 cases y with
 | x0 w0_5 =>
  have h1:=hy
  refine K2 (fun h2 => ?_)
  exact KX (DP Tryz.f72 [.row ((GTask.t q0) g0),.val (.int .i64 (g0.f4.length:Int)),.lp (.exit 0) (rV q0 w0_5),.ret [(false,[.s .own () 1 ((dr w0_5).map etI)])]] (AR (GTask.t q0) h0<|ALn g0.f4 etS<|AL h1<|AC (p:=(w0_5.map etI).length=(w0_5.map etI).length) rfl<|AV (ψ:=fun k=>E.C k 86 [.one (.s .own () 1 (w0_5.map etI))]=some [(false,[.s .own () 1 ((dr w0_5).map etI)])]) (oh w0_5 h2)<|AN))
inductive vO where
 | x2 (v5:List Int)
def jr (q0:Kd) (v1:Int) (v2_0 v2_1:ByteArray) (v2_2 v2_3:Int) (v2_4:Bool) (v2_5:List GTask) (v5:List Int) (v6 v7:Int):US:=stL 48 [(1,.one (tI v1)),(2,.box () [tS v2_0,tS v2_1,tI v2_2,tI v2_3,tB v2_4,.s .far () 5 (v2_5.map (GTask.t q0))]),(5,.one (.s .own () 1 (v5.map etI))),(6,.one (tI v6)),(7,.one (tI v7))]
def of (q0:Kd) (v1:Int) (v2_0 v2_1:ByteArray) (v2_2 v2_3:Int) (v2_4:Bool) (v2_5:List GTask) (v6:Int) (zv5:List Int):US:=stL 48 [(1,.one (tI v1)),(2,.box () [tS v2_0,tS v2_1,tI v2_2,tI v2_3,tB v2_4,.s .far () 5 (v2_5.map (GTask.t q0))]),(5,.one (.s .own () 1 (zv5.map etI))),(6,.one (tI v6))]
abbrev qw:US→Exit→US→Prop:=Round E 41 (aw Tryz.f41 1)
def Ee {q0:Kd} (v1:Int) (v2_0 v2_1:ByteArray) (v2_2 v2_3:Int) (v2_4:Bool) (v2_5:List GTask) (v5:List Int) (v6 v7:Int):vO→Prop
 | .x2 zv5=>Loops E 41 (aw Tryz.f41 1) (jr q0 v1 v2_0 v2_1 v2_2 v2_3 v2_4 v2_5 v5 v6 v7) (.exit 2) (of q0 v1 v2_0 v2_1 v2_2 v2_3 v2_4 v2_5 v6 zv5)
noncomputable def eZ (v2_5:List GTask) (v6:Int):List ByteArray→Nat→Bool→(List Int)→Option vO
 | [],i,v2_4,v5=>some (.x2 v5)
 | hd::rest,i,v2_4,v5=>(aA v2_5 v6).bind fun g2=>cond (hd.toList==g2.f0.toList)
  (if (v5.length+([v6]).length)*8≤140737488355328∧v5.length+([v6]).length≤4611686018427387904 then eZ v2_5 v6 rest (i+1) v2_4 (v5++([v6])) else none)
  (eZ v2_5 v6 rest (i+1) v2_4 v5)
theorem Ec {q0:Kd} (v1:Int) (v2_0 v2_1:ByteArray) (v2_2 v2_3:Int) (v2_5:List GTask) (v6:Int) (g0:GTask) (hq0:aA v2_5 v1=some g0) (rest:List ByteArray):∀ (i:Nat) (v2_4:Bool) (v5:List Int),(g0.f4).drop i=rest→g0.f4.length≤9223372036854775807→Ans (eZ v2_5 v6 rest i v2_4 v5) (Ee (q0:=q0) v1 v2_0 v2_1 v2_2 v2_3 v2_4 v2_5 v5 v6 (i:Int)):=by
 induction rest with
 | nil =>
  intro i v2_4 v5 hE hl
  have hb:=bo hE
  unfold eZ
  exact KX (KZ (show qw (jr q0 v1 v2_0 v2_1 v2_2 v2_3 v2_4 v2_5 v5 v6 (i:Int)) (.exit 2) (of q0 v1 v2_0 v2_1 v2_2 v2_3 v2_4 v2_5 v6 v5) from RP [.row ((GTask.t q0) g0),.val (.int .i64 (g0.f4.length:Int)),.b false] (AR (GTask.t q0) hq0<|ALn g0.f4 etS<|AC hb<|AN)) (by intro h;cases h))
 | cons hd rest ih =>
  intro i v2_4 v5 hE hl
  have hb:=aY hE
  have hw:=aZ hE hl
  have hE2:=aH hE
  have hg:=bc hE
  unfold eZ
  refine K1 (fun g2 h3 => ?_)
  apply K0<;>intro h4
  ·refine K2 (fun h5 => ?_)
   exact (ih (i+1) v2_4 (v5++([v6])) hE2 hl).mono fun y hy=>by have r:qw (jr q0 v1 v2_0 v2_1 v2_2 v2_3 v2_4 v2_5 v5 v6 (i:Int)) .normal (jr q0 v1 v2_0 v2_1 v2_2 v2_3 v2_4 v2_5 (v5++([v6])) v6 (inc (i:Int))):=RP [.row ((GTask.t q0) g0),.val (.int .i64 (g0.f4.length:Int)),.b true,.row ((GTask.t q0) g0),.row (etS hd),.row ((GTask.t q0) g2),.b true,.rows ((v5++([v6])).map etI)] (AR (GTask.t q0) hq0<|ALn g0.f4 etS<|AC hb<|AR (GTask.t q0) hq0<|AR etS hg<|AR (GTask.t q0) h3<|AC h4<|AAp etI (fun _=>rfl) h5<|AN);rw [hw] at r;cases y<;>exact KY r hy
  ·exact (ih (i+1) v2_4 v5 hE2 hl).mono fun y hy=>by have r:qw (jr q0 v1 v2_0 v2_1 v2_2 v2_3 v2_4 v2_5 v5 v6 (i:Int)) .normal (jr q0 v1 v2_0 v2_1 v2_2 v2_3 v2_4 v2_5 v5 v6 (inc (i:Int))):=RP [.row ((GTask.t q0) g0),.val (.int .i64 (g0.f4.length:Int)),.b true,.row ((GTask.t q0) g0),.row (etS hd),.row ((GTask.t q0) g2),.b false] (AR (GTask.t q0) hq0<|ALn g0.f4 etS<|AC hb<|AR (GTask.t q0) hq0<|AR etS hg<|AR (GTask.t q0) h3<|AC h4<|AN);rw [hw] at r;cases y<;>exact KY r hy
inductive vN where
 | x0 (v5:List Int)
def ny (q0:Kd) (v1:Int) (v2_0 v2_1:ByteArray) (v2_2 v2_3:Int) (v2_4:Bool) (v2_5:List GTask) (v5:List Int) (v6:Int):US:=stL 48 [(1,.one (tI v1)),(2,.box () [tS v2_0,tS v2_1,tI v2_2,tI v2_3,tB v2_4,.s .far () 5 (v2_5.map (GTask.t q0))]),(5,.one (.s .own () 1 (v5.map etI))),(6,.one (tI v6))]
def oe (q0:Kd) (zv5:List Int):US:=stL 48 [(5,.one (.s .own () 1 (zv5.map etI)))]
abbrev vM:US→Exit→US→Prop:=Round E 41 (aw Tryz.f41 0)
def Ed {q0:Kd} (v1:Int) (v2_0 v2_1:ByteArray) (v2_2 v2_3:Int) (v2_4:Bool) (v2_5:List GTask) (v5:List Int) (v6:Int):vN→Prop
 | .x0 zv5=>Loops E 41 (aw Tryz.f41 0) (ny q0 v1 v2_0 v2_1 v2_2 v2_3 v2_4 v2_5 v5 v6) (.exit 0) (oe q0 zv5)
noncomputable def fU (v1:Int) (v2_5:List GTask):List GTask→Nat→Bool→(List Int)→Option vN
 | [],i,v2_4,v5=>some (.x0 v5)
 | hd::rest,i,v2_4,v5=>(aA v2_5 v1).bind fun e1=>if e1.f4.length≤9223372036854775807 then (eZ v2_5 (i:Int) e1.f4 0 v2_4 v5).bind fun y=>match y with
  | .x2 w0_5=>(fU v1 v2_5 rest (i+1) v2_4 w0_5) else none
theorem Eb {q0:Kd} (v1:Int) (v2_0 v2_1:ByteArray) (v2_2 v2_3:Int) (v2_5:List GTask) (rest:List GTask):∀ (i:Nat) (v2_4:Bool) (v5:List Int),(v2_5).drop i=rest→v2_5.length≤9223372036854775807→Ans (fU v1 v2_5 rest i v2_4 v5) (Ed (q0:=q0) v1 v2_0 v2_1 v2_2 v2_3 v2_4 v2_5 v5 (i:Int)):=by
 induction rest with
 | nil =>
  intro i v2_4 v5 hE hl
  have hb:=bo hE
  unfold fU
  exact KX (KZ (show vM (ny q0 v1 v2_0 v2_1 v2_2 v2_3 v2_4 v2_5 v5 (i:Int)) (.exit 0) (oe q0 v5) from RP [.val (.int .i64 (v2_5.length:Int)),.b false] (ALn v2_5 (GTask.t q0)<|AC hb<|AN)) (by intro h;cases h))
 | cons hd rest ih =>
  intro i v2_4 v5 hE hl
  have hb:=aY hE
  have hw:=aZ hE hl
  have hE2:=aH hE
  have hg:=bc hE
  unfold fU
  refine K1 (fun e1 k1 => ?_)
  refine K2 (fun hl2 => ?_)
  refine K1 (fun y hy => ?_)
  replace hy:=Ec (q0:=q0) v1 v2_0 v2_1 v2_2 v2_3 v2_5 (i:Int) e1 k1 e1.f4 0 v2_4 v5 rfl hl2 y hy
  cases y with
  | x2 w0_5 =>
   have h1:=hy
   exact (ih (i+1) v2_4 w0_5 hE2 hl).mono fun y hy=>by have r:vM (ny q0 v1 v2_0 v2_1 v2_2 v2_3 v2_4 v2_5 v5 (i:Int)) .normal (ny q0 v1 v2_0 v2_1 v2_2 v2_3 v2_4 v2_5 w0_5 (inc (i:Int))):=RP [.val (.int .i64 (v2_5.length:Int)),.b true,.lp (.exit 2) (of q0 v1 v2_0 v2_1 v2_2 v2_3 v2_4 v2_5 (i:Int) w0_5)] (ALn v2_5 (GTask.t q0)<|AC hb<|AL h1<|AN);rw [hw] at r;cases y<;>exact KY r hy
noncomputable def oB (x0:GDag) (x1:Int):Option ((List Int)) :=
  if x0.f5.length≤9223372036854775807 then (fU x1 x0.f5 x0.f5 0 x0.f4 ([])).bind fun y=>match y with
   | .x0 w0_5=>(some (w0_5)) else none
theorem F3 {q0:Kd} (x0:GDag) (x1:Int):Ans (oB x0 x1) (fun r=>Does E 41 [.agg (GDag.t .far q0 x0),.one (tI x1)] [(false,[.s .own () 1 (r.map etI)])]):=by
 unfold oB
 refine K2 (fun hl1 => ?_)
 refine K1 (fun y hy => ?_)
 replace hy:=Eb (q0:=q0) x1 x0.f0 x0.f1 x0.f2 x0.f3 x0.f5 x0.f5 0 x0.f4 ([]) rfl hl1 y hy
 cases y with
 | x0 w0_5 =>
  have h0:=hy
  exact KX (DP Tryz.f41 [.lp (.exit 0) (oe q0 w0_5)] (AL h0<|AN))
noncomputable def Iw (ts:List GTask) (t:GTask):List Int:=dr (t.f4.map (ao ts))
noncomputable def ups (d:GDag) (i:Int):List Int:=match aA d.f5 i with | some t=>Iw d.f5 t | none=>[]
theorem rJ {d:GDag} (h:cH d=true):d.f5.length≤4∧1≤d.f5.length∧dE d.f5 d.f5 0=true∧cN d.f5∧(da d.f5).length=d.f5.length:=by
 unfold cH at h
 simp only [Bool.and_eq_true,beq_iff_eq] at h
 obtain ⟨_,_,_,_,h5,h6,h7⟩:=h
 have h4:1≤d.f5.length∧d.f5.length≤4:=by unfold aM at h5;simp at h5;omega
 exact ⟨h4.2,h4.1,h6,rR h4.2 h6,by omega⟩
theorem xD {ts:List GTask} (h:dE ts ts 0=true) {k:Nat} {t:GTask} (hk:ts[k]?=some t):asc t.f0 t.f4 none=true∧∀ n∈t.f4,0≤ao ts n:=by
 have:=sf ts ts 0 rfl h k t (Nat.zero_le _) hk
 unfold ib at this
 simp only [Bool.and_eq_true] at this
 exact ⟨this.2.2.2.2.1,fun n hn=>of_decide_eq_true (List.all_eq_true.1 this.2.2.2.2.2 n hn)⟩
theorem AH (ts:List GTask) {a b:ByteArray} (h:tx a=tx b):ao ts a=ao ts b:=by
 rw [xS h]
theorem sD {ts:List GTask} {n:ByteArray} (h:0≤ao ts n):∃ (k:Nat) (t:GTask),ao ts n=(k:Int)∧ts[k]?=some t∧tx t.f0=tx n:=by
 unfold ao at h ⊢
 rcases l6 n ts 0 with ⟨h',_⟩ | ⟨k,t,h1,h2,h3⟩
 ·rw [h'] at h;omega
 ·unfold iD at h3
  rw [jb,decide_eq_true_eq] at h3
  exact ⟨k,t,by rw [h1];omega,h2,h3⟩
theorem tg {l:List Int} (hn:l.Nodup):(dr l).Pairwise (· < ·)∧∀ x,x∈dr l↔x∈l:=by
 have hs:(dr l).Pairwise (· ≤ ·):=by
  have:=List.pairwise_mergeSort (le:=fun x y:Int=>decide (x≤y)) (fun a b c=>by simp;omega) (fun a b=>by simp;omega) l
  exact this.imp fun h=>by simpa using h
 have hp:(dr l).Perm l:=List.mergeSort_perm l _
 have hd:(dr l).Nodup:=hp.nodup_iff.2 hn
 refine ⟨?_,fun x=>hp.mem_iff⟩
 have:=hs.and hd
 exact this.imp fun ⟨a,b⟩=>by omega
theorem zI {ts:List GTask} {t:GTask} (ha:asc t.f0 t.f4 none=true) (h0:∀ n∈t.f4,0≤ao ts n):(t.f4.map (ao ts)).Nodup:=by
 have hn:=(pG t.f0 t.f4 none ha).1
 unfold List.Nodup at hn ⊢
 rw [List.pairwise_map] at hn ⊢
 refine hn.imp_of_mem fun {a b} hA hB hne e => ?_
 obtain ⟨k,u,e1,e2,e3⟩:=sD (h0 a hA)
 obtain ⟨j,v,g1,g2,g3⟩:=sD (h0 b hB)
 have:k=j:=by omega
 subst this
 rw [e2] at g2
 cases g2
 exact hne (e3.symm.trans g3)
def gJ (af:List ByteArray):List GTask→Nat→List Int
 | [],_=>[]
 | t::r,k=>(af.filter fun n=>n.toList==t.f0.toList).map (fun _=>(k:Int))++gJ af r (k+1)
theorem w9 {x:ByteArray}:∀ {l:List ByteArray},(l.map tx).Nodup→(l.filter fun n=>n.toList==x.toList).length≤1
 | [],_=>by simp
 | y::l,h=>by
  rw [List.map_cons,List.nodup_cons] at h
  have ih:=w9 (x:=x) h.2
  rw [List.filter_cons]
  split
  ·rename_i q
   rw [jb,decide_eq_true_eq] at q
   have:l.filter (fun n=>n.toList==x.toList)=[]:=by
    rw [List.filter_eq_nil_iff]
    intro z hz e
    rw [jb,decide_eq_true_eq] at e
    exact h.1 (List.mem_map.2 ⟨z,hz,e.trans q.symm⟩)
   rw [this];simp
  ·exact ih
theorem xU {af:List ByteArray} (hn:(af.map tx).Nodup):∀ (l:List GTask) (k:Nat),(gJ af l k).Pairwise (· < ·)∧(∀ x∈gJ af l k,(k:Int)≤x)∧∀ x,x∈gJ af l k↔∃ (j:Nat) (t:GTask),l[j]?=some t∧x=((k+j:Nat):Int)∧∃ n∈af,tx n=tx t.f0
 | [],k=>⟨by simp [gJ],fun x hx=>by simp [gJ] at hx,fun x=>by simp [gJ]⟩
 | t::l,k=>by
  obtain ⟨h1,h2,h3⟩:=xU hn l (k+1)
  unfold gJ
  have hf:=w9 (x:=t.f0) hn
  have hmem:∀ x,x∈(af.filter fun n=>n.toList==t.f0.toList).map (fun _=>(k:Int))↔x=(k:Int)∧∃ n∈af,tx n=tx t.f0:=fun x=>by
   rw [List.mem_map]
   constructor
   ·rintro ⟨n,hm,rfl⟩
    rw [List.mem_filter,jb,decide_eq_true_eq] at hm
    exact ⟨rfl,n,hm⟩
   ·rintro ⟨rfl,n,hm⟩
    exact ⟨n,by rw [List.mem_filter,jb,decide_eq_true_eq];exact hm,rfl⟩
  refine ⟨?_,fun x hx => ?_,fun x => ?_⟩
  ·rw [List.pairwise_append]
   refine ⟨?_,h1,fun a ha b hb => ?_⟩
   ·generalize (af.filter fun n=>n.toList==t.f0.toList)=L at hf
    match L,hf with
    | [],_=>simp
    | [y],_=>simp
    | y::z::w,hf=>simp at hf
   ·have:=((hmem a).1 ha).1
    have:=h2 b hb
    omega
  ·rcases List.mem_append.1 hx with hx | hx
   ·have:=((hmem x).1 hx).1;omega
   ·have:=h2 x hx;omega
  ·rw [List.mem_append,hmem,h3]
   constructor
   ·rintro (⟨e,hn⟩ | ⟨j,u,e1,e2,hn⟩)
    ·exact ⟨0,t,rfl,by omega,hn⟩
    ·exact ⟨j+1,u,e1,by omega,hn⟩
   ·rintro ⟨j,u,e1,e2,hn⟩
    cases j with
    | zero=>cases e1;exact .inl ⟨by omega,hn⟩
    | succ j=>exact .inr ⟨j,u,e1,by omega,hn⟩
theorem Ix {ts:List GTask} (hg:cN ts) {t:GTask} (ha:asc t.f0 t.f4 none=true) (h0:∀ n∈t.f4,0≤ao ts n):gJ t.f4 ts 0=Iw ts t:=by
 obtain ⟨a1, -,a3⟩:=xU (pG t.f0 t.f4 none ha).1 ts 0
 obtain ⟨b1,b2⟩:=tg (zI ha h0)
 refine uR a1 b1 fun x => ?_
 rw [a3]
 show _↔x∈dr _
 rw [b2,List.mem_map]
 constructor
 ·rintro ⟨j,u,e1,e2,n,hn,e3⟩
  refine ⟨n,hn,?_⟩
  rw [AH ts e3,hg.2 j u e1]
  omega
 ·rintro ⟨n,hn,rfl⟩
  obtain ⟨k,u,e1,e2,e3⟩:=sD (h0 n hn)
  exact ⟨k,u,e2,by rw [e1];omega,n,hn,e3.symm⟩
theorem HD (a b:ByteArray) (c e:Int) (ts:List GTask) (ht:ts.length≤1050000):∀ (l:List ByteArray) (i:Nat) (z:Bool) (v:List Int),v.length+l.length≤2000000→jS a b c e ts l i z v=some (.x0 (v++l.map (ao ts)))
 | [],i,z,v,_=>by unfold jS;simp
 | n::l,i,z,v,hl=>by
  simp only [List.length_cons] at hl
  unfold jS
  rw [if_pos (show (GDag.mk a b c e z ts).f5.length≤1050000 from ht),if_pos (by simp;omega),HD a b c e ts ht l (i+1) z _ (by simp;omega)]
  simp [bw]
theorem JY (d:GDag) (i:Int) (h:am.sm d) (hi:0≤i∧i<(d.f5.length:Int)):uY d i=some (ups d i):=by
 have hs:am.sm d.f5:=h.2.2
 obtain ⟨t,hg,hm⟩:=lR hi
 have h4:t.f4.length≤1050000:=(hs.2 t hm).2.2.1
 unfold uY ups
 rw [hg,Option.bind_some,if_pos (by omega),HD _ _ _ _ _ hs.1 _ _ _ _ (by simp;omega),Option.bind_some]
 simp only [List.nil_append]
 rw [if_pos (by rw [List.length_map];omega)]
 rfl
theorem CZ (ts:List GTask) (k:Nat) (u:GTask) (hu:ts[k]?=some u):∀ (l:List ByteArray) (i:Nat) (z:Bool) (v:List Int),v.length+l.length≤8000000→eZ ts (k:Int) l i z v=some (.x2 (v++(l.filter fun n=>n.toList==u.f0.toList).map fun _=>(k:Int)))
 | [],i,z,v,_=>by unfold eZ;simp
 | n::l,i,z,v,hl=>by
  simp only [List.length_cons] at hl
  have hg:aA ts (k:Int)=some u:=by rw [es];exact hu
  unfold eZ
  rw [hg,Option.bind_some,List.filter_cons]
  cases n.toList==u.f0.toList with
  | true=>rw [cond_true,if_pos (by simp;omega),CZ ts k u hu l (i+1) z _ (by simp;omega)];simp
  | false=>rw [cond_false,CZ ts k u hu l (i+1) z v (by omega)];simp
theorem HC (ts:List GTask) (i:Int) (t:GTask) (hg:aA ts i=some t) (h4:t.f4.length≤1050000) (hl4:ts.length≤4):∀ (l:List GTask) (k:Nat) (z:Bool) (v:List Int),ts.drop k=l→v.length+l.length*1050000≤6000000→fU i ts l k z v=some (.x0 (v++gJ t.f4 l k))
 | [],k,z,v,_,_=>by unfold fU gJ;rw [List.append_nil]
 | u::l,k,z,v,hd,hv=>by
  have hu:ts[k]?=some u:=by rw [← List.head?_drop,hd];rfl
  simp only [List.length_cons] at hv
  have hf:=List.length_filter_le (fun n:ByteArray=>n.toList==u.f0.toList) t.f4
  unfold fU gJ
  rw [hg,Option.bind_some,if_pos (by omega),CZ ts k u hu _ _ _ _ (by omega),Option.bind_some]
  simp only
  rw [HC ts i t hg h4 hl4 l (k+1) z _ (aH hd) (by simp;omega),List.append_assoc]
theorem JZ (d:GDag) (i:Int) (h:am.sm d) (hd:cH d=true) (hi:0≤i∧i<(d.f5.length:Int)):oB d i=some (ups d i):=by
 obtain ⟨h4, -,hr,hgn, -⟩:=rJ hd
 have hs:am.sm d.f5:=h.2.2
 obtain ⟨t,hg,hm⟩:=lR hi
 have hf:t.f4.length≤1050000:=(hs.2 t hm).2.2.1
 obtain ⟨h0,hk⟩:=lS hg
 obtain ⟨ha,hn⟩:=xD hr hk
 unfold oB ups
 rw [if_pos (by omega),hg,HC d.f5 i t hg hf h4 d.f5 0 d.f4 [] rfl (by simp;omega),Option.bind_some]
 simp only [List.nil_append]
 rw [Ix hgn ha hn]
theorem JP {d:GDag} {i:Int} (hd:cH d=true) (hi:0≤i∧i<(d.f5.length:Int)):(∀ x∈ups d i,0≤x∧x<(d.f5.length:Int))∧(ups d i).length≤4:=by
 obtain ⟨h4, -,hr,hgn, -⟩:=rJ hd
 obtain ⟨t,hg,hm⟩:=lR hi
 obtain ⟨h0,hk⟩:=lS hg
 obtain ⟨ha,hn⟩:=xD hr hk
 have e:ups d i=Iw d.f5 t:=by unfold ups;rw [hg]
 obtain ⟨b1,b2⟩:=tg (zI ha hn)
 have hx:∀ x∈ups d i,0≤x∧x<(d.f5.length:Int):=fun x hx=>by
  rw [e] at hx
  obtain ⟨n,hm,rfl⟩:=List.mem_map.1 ((b2 x).1 hx)
  exact ⟨hn n hm,(F8 d.f5 n).2⟩
 refine ⟨hx,?_⟩
 have:=sg 0 ((d.f5.length:Int)-1) (ups d i) 0 (by rw [e];exact b1) (fun x h=>by have:=hx x h;omega) (by omega)
 omega
theorem IL {q0:Kd} (x0:GDag) (x1:Int) (h:am.sm x0) (hd:cH x0=true) (hi:0≤x1∧x1<(x0.f5.length:Int)):Does E 72 [.agg (GDag.t .far q0 x0),.one (tI x1)] [(false,[.s .own () 1 ((ups x0 x1).map etI)])]:=by
 exact I6 x0 x1 _ (JY x0 x1 h hi)
theorem EW {q0:Kd} (x0:GDag) (x1:Int) (h:am.sm x0) (hd:cH x0=true) (hi:0≤x1∧x1<(x0.f5.length:Int)):Does E 41 [.agg (GDag.t .far q0 x0),.one (tI x1)] [(false,[.s .own () 1 ((ups x0 x1).map etI)])]:=by
 exact F3 x0 x1 _ (JZ x0 x1 h hd hi)
end Go.Proofs.YtdcbjglpdbcjpaaGreatDoor.Am
namespace Go.Proofs.YtdcbjglpdbcjpaaGreatDoor.Am
open Go Go.Proofs Classical
set_option maxRecDepth 100000
set_option linter.unusedVariables false
set_option linter.unusedSimpArgs false
theorem zq {ts:List GTask} (hg:cN ts):∀ (k:Nat) (o:List Int),o.Nodup→(∀ x∈o,0≤x∧x<(ts.length:Int))→(iu ts k o).Nodup∧∀ x∈iu ts k o,0≤x∧x<(ts.length:Int)
 | 0,o,h1,h2=>⟨h1,h2⟩
 | k+1,o,h1,h2=>by
  unfold iu
  cases q:eB o ts ts 0 with
  | none=>exact ⟨h1,h2⟩
  | some i =>
   obtain ⟨t,j,e1,e2,e3,e4⟩:=nV q
   have hij:i=j:=by omega
   subst hij
   rw [hg.2 i t e2] at e3
   have hi:i<ts.length:=by
    rcases Nat.lt_or_ge i ts.length with g | g
    ·exact g
    ·rw [List.getElem?_eq_none g] at e2;cases e2
   have hni:(i:Int)∉o:=fun q=>by rw [wj.2 q] at e3;cases e3
   refine zq hg k _ ?_ fun x hx => ?_
   ·rw [List.nodup_append]
    exact ⟨h1,by simp,fun a ha b hb e=>by rw [List.mem_singleton] at hb;subst hb;subst e;exact hni ha⟩
   ·rcases List.mem_append.1 hx with hx | hx
    ·exact h2 x hx
    ·rw [List.mem_singleton] at hx;subst hx;omega
theorem zp {ts:List GTask} (hg:cN ts):(da ts).Nodup∧∀ x∈da ts,0≤x∧x<(ts.length:Int):=zq hg _ _ (by simp) (fun x hx=>by cases hx)
noncomputable def uh (x0:GState):Option (Bool) :=
  cond (x0.f0==(3:Int))
   (some (true))
   (some (x0.f0==(4:Int)))
theorem GO (x0:GState):Ans (uh x0) (fun r=>Does E 52 [.agg (GState.t x0)] [(false,[tB r])]):=by
 unfold uh
 apply K0<;>intro h0
 ·exact KX (DP Tryz.f52 [.b true] (AC h0<|AN))
 ·exact KX (DP Tryz.f52 [.b false] (AC h0<|AN))
def ey (x:GState):Bool:=x.f0==3 || x.f0==4
def BT (x:GState):Bool:=x.f0==2
theorem pE (x0:GState):Does E 52 [.agg (GState.t x0)] [(false,[tB (ey x0)])]:=by
 exact GO x0 _ (by unfold uh ey;cases x0.f0==3<;>rfl)
inductive vP where
 | x0 (v8 v9:Bool)
def bM (q0:Kd) (v4_0:ByteArray) (v4_1 v4_2 v4_3:Int) (v4_4:List GState) (v8 v9:Bool) (v10:List Int) (v11:Int):US:=stL 47 [(4,.box () [tS v4_0,tI v4_1,tI v4_2,tI v4_3,.s .far () 4 (v4_4.map GState.t)]),(8,.one (tB v8)),(9,.one (tB v9)),(10,.one (.s .own () 1 (v10.map etI))),(11,.one (tI v11))]
def gG (q0:Kd) (zv8 zv9:Bool):US:=stL 47 [(8,.one (tB zv8)),(9,.one (tB zv9))]
abbrev em:US→Exit→US→Prop:=Round E 20 (aw Tryz.f20 0)
def Eh {q0:Kd} (v4_0:ByteArray) (v4_1 v4_2 v4_3:Int) (v4_4:List GState) (v8 v9:Bool) (v10:List Int) (v11:Int):vP→Prop
 | .x0 zv8 zv9=>Loops E 20 (aw Tryz.f20 0) (bM q0 v4_0 v4_1 v4_2 v4_3 v4_4 v8 v9 v10 v11) (.exit 0) (gG q0 zv8 zv9)
noncomputable def dk (v4_4:List GState) (v10:List Int):Nat→Bool→Bool→Int→Option vP
 | 0,_,_,_=>none
 | n+1,v8,v9,v11=>match v8 with
  | true=>match v9 with
   | true=>cond (decide (v11<(v10.length:Int)))
    ((aA v10 v11).bind fun g0=>(aA v4_4 g0).bind fun g1=>dk v4_4 v10 n (g1.f0==(2:Int)) true (inc v11))
    (some (.x0 v8 v9))
   | false=>cond (decide (v11<(v10.length:Int)))
    ((aA v10 v11).bind fun g0=>(aA v4_4 g0).bind fun g1=>cond (g1.f0==(3:Int))
     (dk v4_4 v10 n (g1.f0==(2:Int)) true (inc v11))
     (dk v4_4 v10 n (g1.f0==(2:Int)) (g1.f0==(4:Int)) (inc v11)))
    (some (.x0 v8 v9))
  | false=>match v9 with
   | true=>cond (decide (v11<(v10.length:Int)))
    ((aA v10 v11).bind fun g0=>(aA v4_4 g0).bind fun g1=>dk v4_4 v10 n false true (inc v11))
    (some (.x0 v8 v9))
   | false=>cond (decide (v11<(v10.length:Int)))
    ((aA v10 v11).bind fun g0=>(aA v4_4 g0).bind fun g1=>cond (g1.f0==(3:Int))
     (dk v4_4 v10 n false true (inc v11))
     (dk v4_4 v10 n false (g1.f0==(4:Int)) (inc v11)))
    (some (.x0 v8 v9))
theorem Eg {q0:Kd} (v4_0:ByteArray) (v4_1 v4_2 v4_3:Int) (v4_4:List GState) (v10:List Int) (n:Nat):∀ (v8 v9:Bool) (v11:Int),Ans (dk v4_4 v10 n v8 v9 v11) (Eh (q0:=q0) v4_0 v4_1 v4_2 v4_3 v4_4 v8 v9 v10 v11):=by
 induction n with
 | zero=>intros;exact Ans.none
 | succ n ih =>
  intro v8 v9 v11
  unfold dk
  cases v8 with
  | true =>
   cases v9 with
   | true =>
    apply K0<;>intro h0
    ·refine K1 (fun g0 h1 => ?_)
     refine K1 (fun g1 h2 => ?_)
     have r:em (bM q0 v4_0 v4_1 v4_2 v4_3 v4_4 true true v10 v11) .normal (bM q0 v4_0 v4_1 v4_2 v4_3 v4_4 (g1.f0==(2:Int)) true v10 (inc v11)):=RP [.val (.int .i64 (v10.length:Int)),.b true,.row (etI g0),.row (GState.t g1)] (ALn v10 etI<|AC h0<|AG etI h1<|AR GState.t h2<|AN);exact (ih (g1.f0==(2:Int)) true (inc v11)).mono fun y hy=>by cases y<;>exact KY r hy
    ·exact KX (KZ (show em (bM q0 v4_0 v4_1 v4_2 v4_3 v4_4 true true v10 v11) (.exit 0) (gG q0 true true) from RP [.val (.int .i64 (v10.length:Int)),.b false] (ALn v10 etI<|AC h0<|AN)) (by intro h;cases h))
   | false =>
    apply K0<;>intro h0
    ·refine K1 (fun g0 h1 => ?_)
     refine K1 (fun g1 h2 => ?_)
     apply K0<;>intro h3
     ·have r:em (bM q0 v4_0 v4_1 v4_2 v4_3 v4_4 true false v10 v11) .normal (bM q0 v4_0 v4_1 v4_2 v4_3 v4_4 (g1.f0==(2:Int)) true v10 (inc v11)):=RP [.val (.int .i64 (v10.length:Int)),.b true,.row (etI g0),.row (GState.t g1),.no,.b true] (ALn v10 etI<|AC h0<|AG etI h1<|AR GState.t h2<|AC h3<|AN);exact (ih (g1.f0==(2:Int)) true (inc v11)).mono fun y hy=>by cases y<;>exact KY r hy
     ·have r:em (bM q0 v4_0 v4_1 v4_2 v4_3 v4_4 true false v10 v11) .normal (bM q0 v4_0 v4_1 v4_2 v4_3 v4_4 (g1.f0==(2:Int)) (g1.f0==(4:Int)) v10 (inc v11)):=RP [.val (.int .i64 (v10.length:Int)),.b true,.row (etI g0),.row (GState.t g1),.no,.b false] (ALn v10 etI<|AC h0<|AG etI h1<|AR GState.t h2<|AC h3<|AN);exact (ih (g1.f0==(2:Int)) (g1.f0==(4:Int)) (inc v11)).mono fun y hy=>by cases y<;>exact KY r hy
    ·exact KX (KZ (show em (bM q0 v4_0 v4_1 v4_2 v4_3 v4_4 true false v10 v11) (.exit 0) (gG q0 true false) from RP [.val (.int .i64 (v10.length:Int)),.b false] (ALn v10 etI<|AC h0<|AN)) (by intro h;cases h))
  | false =>
   cases v9 with
   | true =>
    apply K0<;>intro h0
    ·refine K1 (fun g0 h1 => ?_)
     refine K1 (fun g1 h2 => ?_)
     have r:em (bM q0 v4_0 v4_1 v4_2 v4_3 v4_4 false true v10 v11) .normal (bM q0 v4_0 v4_1 v4_2 v4_3 v4_4 false true v10 (inc v11)):=RP [.val (.int .i64 (v10.length:Int)),.b true,.row (etI g0),.row (GState.t g1)] (ALn v10 etI<|AC h0<|AG etI h1<|AR GState.t h2<|AN);exact (ih false true (inc v11)).mono fun y hy=>by cases y<;>exact KY r hy
    ·exact KX (KZ (show em (bM q0 v4_0 v4_1 v4_2 v4_3 v4_4 false true v10 v11) (.exit 0) (gG q0 false true) from RP [.val (.int .i64 (v10.length:Int)),.b false] (ALn v10 etI<|AC h0<|AN)) (by intro h;cases h))
   | false =>
    apply K0<;>intro h0
    ·refine K1 (fun g0 h1 => ?_)
     refine K1 (fun g1 h2 => ?_)
     apply K0<;>intro h3
     ·have r:em (bM q0 v4_0 v4_1 v4_2 v4_3 v4_4 false false v10 v11) .normal (bM q0 v4_0 v4_1 v4_2 v4_3 v4_4 false true v10 (inc v11)):=RP [.val (.int .i64 (v10.length:Int)),.b true,.row (etI g0),.row (GState.t g1),.b true] (ALn v10 etI<|AC h0<|AG etI h1<|AR GState.t h2<|AC h3<|AN);exact (ih false true (inc v11)).mono fun y hy=>by cases y<;>exact KY r hy
     ·have r:em (bM q0 v4_0 v4_1 v4_2 v4_3 v4_4 false false v10 v11) .normal (bM q0 v4_0 v4_1 v4_2 v4_3 v4_4 false (g1.f0==(4:Int)) v10 (inc v11)):=RP [.val (.int .i64 (v10.length:Int)),.b true,.row (etI g0),.row (GState.t g1),.b false] (ALn v10 etI<|AC h0<|AG etI h1<|AR GState.t h2<|AC h3<|AN);exact (ih false (g1.f0==(4:Int)) (inc v11)).mono fun y hy=>by cases y<;>exact KY r hy
    ·exact KX (KZ (show em (bM q0 v4_0 v4_1 v4_2 v4_3 v4_4 false false v10 v11) (.exit 0) (gG q0 false false) from RP [.val (.int .i64 (v10.length:Int)),.b false] (ALn v10 etI<|AC h0<|AN)) (by intro h;cases h))
noncomputable def oC (x0:GDag) (x1:GRun) (x2:Int):Option (Bool×Bool) :=
  if am.sm x0 then if cH x0=true then if 0≤x2∧x2<(x0.f5.length:Int) then (dk x1.f3 (ups x0 x2) 9223372036854775808 true false (0:Int)).bind fun y=>match y with
   | .x0 w0_8 w0_9=>(some (w0_8,w0_9)) else none else none else none
theorem F4 {q0:Kd} (x0:GDag) (x1:GRun) (x2:Int):Ans (oC x0 x1 x2) (fun r=>Does E 20 [.agg (GDag.t .far q0 x0),.agg (GRun.t .far x1),.one (tI x2)] [(false,[tB r.1]),(false,[tB r.2])]):=by
 unfold oC
 refine K2 (fun h0 => ?_)
 refine K2 (fun h1 => ?_)
 refine K2 (fun h2 => ?_)
 refine K1 (fun y hy => ?_)
 replace hy:=Eg (q0:=q0) x1.f0 x1.f1.f0 x1.f1.f1 x1.f2 x1.f3 (ups x0 x2) 9223372036854775808 true false (0:Int) y hy
 cases y with
 | x0 w0_8 w0_9 =>
  have h3:=hy
  exact KX (DP Tryz.f20 [.ret [(false,[.s .own () 1 ((ups x0 x2).map etI)])],.lp (.exit 0) (gG q0 w0_8 w0_9)] (AV (ψ:=fun k=>E.C k 41 [.agg (GDag.t .far q0 x0),.one (tI x2)]=some [(false,[.s .own () 1 ((ups x0 x2).map etI)])]) (EW x0 x2 h0 h1 h2)<|AL h3<|AN))
inductive mN where
 | x0 (v10 v11:Bool)
def bg (q0:Kd) (v5_0:ByteArray) (v5_1 v5_2 v5_3:Int) (v5_4:List GState) (v10 v11:Bool) (v17:List Int) (v18 v19:Int):US:=stL 41 [(3,.fni 52 []),(5,.box () [tS v5_0,tI v5_1,tI v5_2,tI v5_3,.s .far () 4 (v5_4.map GState.t)]),(10,.one (tB v10)),(11,.one (tB v11)),(17,.one (.s .own () 1 (v17.map etI))),(18,.one (tI v18)),(19,.one (tI v19))]
def cW (q0:Kd) (zv10 zv11:Bool):US:=stL 41 [(10,.one (tB zv10)),(11,.one (tB zv11))]
abbrev cl:US→Exit→US→Prop:=Round E 51 (aw Tryz.f51 0)
def tn {q0:Kd} (v5_0:ByteArray) (v5_1 v5_2 v5_3:Int) (v5_4:List GState) (v10 v11:Bool) (v17:List Int) (v18 v19:Int):mN→Prop
 | .x0 zv10 zv11=>Loops E 51 (aw Tryz.f51 0) (bg q0 v5_0 v5_1 v5_2 v5_3 v5_4 v10 v11 v17 v18 v19) (.exit 0) (cW q0 zv10 zv11)
noncomputable def bG (v5_4:List GState) (v17:List Int) (v18:Int):Nat→Bool→Bool→Int→Option mN
 | 0,_,_,_=>none
 | n+1,v10,v11,v19=>match v10 with
  | true=>match v11 with
   | true=>cond (decide (v19<v18))
    ((aA v17 v19).bind fun g0=>(aA v5_4 g0).bind fun g1=>bG v5_4 v17 v18 n (ey g1) true (inc v19))
    (some (.x0 v10 v11))
   | false=>cond (decide (v19<v18))
    ((aA v17 v19).bind fun g0=>(aA v5_4 g0).bind fun g1=>bG v5_4 v17 v18 n (ey g1) (ey g1) (inc v19))
    (some (.x0 v10 v11))
  | false=>match v11 with
   | true=>cond (decide (v19<v18))
    ((aA v17 v19).bind fun g0=>(aA v5_4 g0).bind fun g1=>bG v5_4 v17 v18 n false true (inc v19))
    (some (.x0 v10 v11))
   | false=>cond (decide (v19<v18))
    ((aA v17 v19).bind fun g0=>(aA v5_4 g0).bind fun g1=>bG v5_4 v17 v18 n false (ey g1) (inc v19))
    (some (.x0 v10 v11))
theorem tj {q0:Kd} (v5_0:ByteArray) (v5_1 v5_2 v5_3:Int) (v5_4:List GState) (v17:List Int) (v18:Int) (n:Nat):∀ (v10 v11:Bool) (v19:Int),Ans (bG v5_4 v17 v18 n v10 v11 v19) (tn (q0:=q0) v5_0 v5_1 v5_2 v5_3 v5_4 v10 v11 v17 v18 v19):=by
 induction n with
 | zero=>intros;exact Ans.none
 | succ n ih =>
  intro v10 v11 v19
  unfold bG
  cases v10 with
  | true =>
   cases v11 with
   | true =>
    apply K0<;>intro h0
    ·refine K1 (fun g0 h1 => ?_)
     refine K1 (fun g1 h2 => ?_)
     have r:cl (bg q0 v5_0 v5_1 v5_2 v5_3 v5_4 true true v17 v18 v19) .normal (bg q0 v5_0 v5_1 v5_2 v5_3 v5_4 (ey g1) true v17 v18 (inc v19)):=RP [.b true,.row (etI g0),.row (GState.t g1),.ret [(false,[tB (ey g1)])]] (AC h0<|AG etI h1<|AR GState.t h2<|AD (pE g1)<|AN);exact (ih (ey g1) true (inc v19)).mono fun y hy=>by cases y<;>exact KY r hy
    ·exact KX (KZ (show cl (bg q0 v5_0 v5_1 v5_2 v5_3 v5_4 true true v17 v18 v19) (.exit 0) (cW q0 true true) from RP [.b false] (AC h0<|AN)) (by intro h;cases h))
   | false =>
    apply K0<;>intro h0
    ·refine K1 (fun g0 h1 => ?_)
     refine K1 (fun g1 h2 => ?_)
     have r:cl (bg q0 v5_0 v5_1 v5_2 v5_3 v5_4 true false v17 v18 v19) .normal (bg q0 v5_0 v5_1 v5_2 v5_3 v5_4 (ey g1) (ey g1) v17 v18 (inc v19)):=RP [.b true,.row (etI g0),.row (GState.t g1),.ret [(false,[tB (ey g1)])]] (AC h0<|AG etI h1<|AR GState.t h2<|AD (pE g1)<|AN);exact (ih (ey g1) (ey g1) (inc v19)).mono fun y hy=>by cases y<;>exact KY r hy
    ·exact KX (KZ (show cl (bg q0 v5_0 v5_1 v5_2 v5_3 v5_4 true false v17 v18 v19) (.exit 0) (cW q0 true false) from RP [.b false] (AC h0<|AN)) (by intro h;cases h))
  | false =>
   cases v11 with
   | true =>
    apply K0<;>intro h0
    ·refine K1 (fun g0 h1 => ?_)
     refine K1 (fun g1 h2 => ?_)
     have r:cl (bg q0 v5_0 v5_1 v5_2 v5_3 v5_4 false true v17 v18 v19) .normal (bg q0 v5_0 v5_1 v5_2 v5_3 v5_4 false true v17 v18 (inc v19)):=RP [.b true,.row (etI g0),.row (GState.t g1),.ret [(false,[tB (ey g1)])]] (AC h0<|AG etI h1<|AR GState.t h2<|AD (pE g1)<|AN);exact (ih false true (inc v19)).mono fun y hy=>by cases y<;>exact KY r hy
    ·exact KX (KZ (show cl (bg q0 v5_0 v5_1 v5_2 v5_3 v5_4 false true v17 v18 v19) (.exit 0) (cW q0 false true) from RP [.b false] (AC h0<|AN)) (by intro h;cases h))
   | false =>
    apply K0<;>intro h0
    ·refine K1 (fun g0 h1 => ?_)
     refine K1 (fun g1 h2 => ?_)
     have r:cl (bg q0 v5_0 v5_1 v5_2 v5_3 v5_4 false false v17 v18 v19) .normal (bg q0 v5_0 v5_1 v5_2 v5_3 v5_4 false (ey g1) v17 v18 (inc v19)):=RP [.b true,.row (etI g0),.row (GState.t g1),.ret [(false,[tB (ey g1)])]] (AC h0<|AG etI h1<|AR GState.t h2<|AD (pE g1)<|AN);exact (ih false (ey g1) (inc v19)).mono fun y hy=>by cases y<;>exact KY r hy
    ·exact KX (KZ (show cl (bg q0 v5_0 v5_1 v5_2 v5_3 v5_4 false false v17 v18 v19) (.exit 0) (cW q0 false false) from RP [.b false] (AC h0<|AN)) (by intro h;cases h))
noncomputable def gQ (x0:GDag) (x1:GRun) (x2:Int):Option (Bool×Bool) :=
  if am.sm x0 then if cH x0=true then if 0≤x2∧x2<(x0.f5.length:Int) then (bG x1.f3 (ups x0 x2) ((ups x0 x2).length:Int) 9223372036854775808 true false (0:Int)).bind fun y=>match y with
   | .x0 w0_10 w0_11=>(some (w0_10,w0_11)) else none else none else none
theorem uk {q0:Kd} (x0:GDag) (x1:GRun) (x2:Int):Ans (gQ x0 x1 x2) (fun r=>Does E 51 [.agg (GDag.t .far q0 x0),.agg (GRun.t .far x1),.one (tI x2),.fni 52 []] [(false,[tB r.1]),(false,[tB r.2])]):=by
 unfold gQ
 refine K2 (fun h0 => ?_)
 refine K2 (fun h1 => ?_)
 refine K2 (fun h2 => ?_)
 refine K1 (fun y hy => ?_)
 replace hy:=tj (q0:=q0) x1.f0 x1.f1.f0 x1.f1.f1 x1.f2 x1.f3 (ups x0 x2) ((ups x0 x2).length:Int) 9223372036854775808 true false (0:Int) y hy
 cases y with
 | x0 w0_10 w0_11 =>
  have h3:=hy
  exact KX (DP Tryz.f51 [.ret [(false,[.s .own () 1 ((ups x0 x2).map etI)])],.val (.int .i64 ((ups x0 x2).length:Int)),.lp (.exit 0) (cW q0 w0_10 w0_11)] (AV (ψ:=fun k=>E.C k 72 [.agg (GDag.t .far q0 x0),.one (tI x2)]=some [(false,[.s .own () 1 ((ups x0 x2).map etI)])]) (IL x0 x2 h0 h1 h2)<|ALn (ups x0 x2) etI<|AL h3<|AN))
def qB (p:GState→Bool) (ts:List GState) (l:List Int):Bool:=l.all fun u=>match aA ts u with | some x=>p x | none=>false
def oJ (p:GState→Bool) (ts:List GState) (l:List Int):Bool:=l.any fun u=>match aA ts u with | some x=>p x | none=>false
noncomputable def HB (p:GState→Bool) (d:GDag) (r:GRun) (i:Int):Bool×Bool:=(qB p r.f3 (ups d i),oJ p r.f3 (ups d i))
noncomputable def EP (d:GDag) (r:GRun) (i:Int):Bool×Bool:=HB BT d r i
noncomputable def fH (d:GDag) (r:GRun) (i:Int):Bool×Bool:=HB ey d r i
noncomputable def gr (d:GDag) (r:GRun) (i:Int):Bool×Bool:=((EP d r i).1,(fH d r i).2)
theorem zJ (ts:List GState) (aD:List Int) (hf:∀ x∈aD,0≤x∧x<(ts.length:Int)) (hl:aD.length≤1000):∀ (m k n:Nat) (a b:Bool),k+m=aD.length→m<n →
  dk ts aD n a b (k:Int)=some (.x0 (a&&qB BT ts (aD.drop k)) (b || oJ ey ts (aD.drop k))) ∧
  bG ts aD (aD.length:Int) n a b (k:Int)=some (.x0 (a&&qB ey ts (aD.drop k)) (b || oJ ey ts (aD.drop k)))
 | m,k,0,a,b,_,hn=>by omega
 | 0,k,n+1,a,b,hk,hn=>by
  have hd:aD.drop k=[]:=List.drop_eq_nil_of_le (by omega)
  have hc:decide ((k:Int)<(aD.length:Int))=false:=decide_eq_false (by omega)
  rw [hd]
  unfold dk bG
  rw [hc]
  cases a<;>cases b<;>exact ⟨rfl,rfl⟩
 | m+1,k,n+1,a,b,hk,hn=>by
  have hkl:k<aD.length:=by omega
  have hd:aD.drop k=aD[k]::aD.drop (k+1):=List.drop_eq_getElem_cons hkl
  have hc:decide ((k:Int)<(aD.length:Int))=true:=decide_eq_true (by omega)
  have hg:aA aD (k:Int)=some aD[k]:=by rw [es];exact List.getElem?_eq_getElem hkl
  obtain ⟨x,hx,_⟩:=lR (hf aD[k] (List.getElem_mem _))
  have e:inc (k:Int)=((k+1:Nat):Int):=by rw [fa _ (by omega) (by omega)];omega
  have ih:=fun a b=>zJ ts aD hf hl m (k+1) n a b (by omega) (by omega)
  have ha:∀ p,qB p ts (aD.drop k)=(p x&&qB p ts (aD.drop (k+1))):=fun p=>by rw [hd];unfold qB;rw [List.all_cons,hx]
  have hs:∀ p,oJ p ts (aD.drop k)=(p x || oJ p ts (aD.drop (k+1))):=fun p=>by rw [hd];unfold oJ;rw [List.any_cons,hx]
  rw [ha,ha,hs]
  have d1:BT x=(x.f0==2):=rfl
  have d2:ey x=(x.f0==3 || x.f0==4):=rfl
  unfold dk bG
  cases a<;>cases b<;>simp only [hc,hg,hx,e,Option.bind_some,cond_true,(ih _ _).1,(ih _ _).2,d1,d2]<;>cases x.f0==2<;>cases x.f0==3<;>cases x.f0==4<;>simp
theorem HA (d:GDag) (r:GRun) (i:Int) (h:am.sm d) (hd:cH d=true) (hl:r.f3.length=d.f5.length) (hi:0≤i∧i<(d.f5.length:Int)) :
  oC d r i=some (gr d r i)∧gQ d r i=some (fH d r i):=by
 obtain ⟨u1,u2⟩:=JP hd hi
 obtain ⟨a1,a3⟩:=zJ r.f3 (ups d i) (fun x hx=>by rw [hl];exact u1 x hx) (by omega) (ups d i).length 0 9223372036854775808 true false (by omega) (by omega)
 rw [List.drop_zero,Bool.true_and,Bool.false_or] at a1 a3
 unfold oC gQ
 refine ⟨?_,?_⟩
 ·rw [if_pos h,if_pos hd,if_pos hi];exact (congrArg (Option.bind · _) a1).trans rfl
 ·rw [if_pos h,if_pos hd,if_pos hi];exact (congrArg (Option.bind · _) a3).trans rfl
theorem ry {q0:Kd} (x0:GDag) (x1:GRun) (x2:Int) (h:am.sm x0) (hd:cH x0=true) (hl:x1.f3.length=x0.f5.length) (hi:0≤x2∧x2<(x0.f5.length:Int)):Does E 20 [.agg (GDag.t .far q0 x0),.agg (GRun.t .far x1),.one (tI x2)] [(false,[tB ((gr x0 x1 x2).1)]),(false,[tB ((gr x0 x1 x2).2)])]:=by
 exact F4 x0 x1 x2 _ (HA x0 x1 x2 h hd hl hi).1
theorem jI {q0:Kd} (x0:GDag) (x1:GRun) (x2:Int) (h:am.sm x0) (hd:cH x0=true) (hl:x1.f3.length=x0.f5.length) (hi:0≤x2∧x2<(x0.f5.length:Int)):Does E 51 [.agg (GDag.t .far q0 x0),.agg (GRun.t .far x1),.one (tI x2),.fni 52 []] [(false,[tB ((fH x0 x1 x2).1)]),(false,[tB ((fH x0 x1 x2).2)])]:=by
 exact uk x0 x1 x2 _ (HA x0 x1 x2 h hd hl hi).2
theorem rk (h:([]:List GState).length*32≤140737488355328∧([]:List GState).length≤4611686018427387904):Does E 44 [.one (.s .far () 4 (([]:List GState).map GState.t))] [(false,[.s .own () 4 (([]:List GState).map GState.t)])] :=
 KW (fn:=Tryz.f44) [.b true,.rows (([]:List GState).map GState.t)] [fun _=>(([]:List GState).map GState.t).length=0,fun _=>([(false,[.s .own () 4 ([]:List (List (T Unit)))])]:URes)=[(false,[.s .own () 4 ([]:List (List (T Unit)))])],fun _=>(([]:List GState).map GState.t).all (fun r=>r.all T.flat)=true∧(([]:List (List (T Unit))).length+(([]:List GState).map GState.t).length)*32≤140737488355328∧([]:List (List (T Unit))).length+(([]:List GState).map GState.t).length≤4611686018427387904,fun _=>([]:List (List (T Unit)))++(([]:List GState).map GState.t)=(([]:List GState).map GState.t)] rfl (fun _=>rfl) (fun k=>by kernel_rfl) ⟨Ev.c rfl,Ev.c rfl,Ev.c (Er (fun x=>rfl) h),Ev.c rfl,trivial⟩
theorem rl (y:GState) (l:List GState) (h:(y::l).length*32≤140737488355328∧(y::l).length≤4611686018427387904):Does E 44 [.one (.s .far () 4 ((y::l).map GState.t))] [(false,[.s .own () 4 ((y::l).map GState.t)])] :=
 KW (fn:=Tryz.f44) [.b false,.rows ((y::l).map GState.t)] [fun _=>((y::l).map GState.t).length≠0,fun _=>((y::l).map GState.t).all (fun r=>r.all T.flat)=true∧(([]:List (List (T Unit))).length+((y::l).map GState.t).length)*32≤140737488355328∧([]:List (List (T Unit))).length+((y::l).map GState.t).length≤4611686018427387904,fun _=>([]:List (List (T Unit)))++((y::l).map GState.t)=((y::l).map GState.t)] rfl (fun _=>rfl) (fun k=>by kernel_rfl) ⟨Ev.c (by simp),Ev.c (Er (fun x=>rfl) h),Ev.c rfl,trivial⟩
noncomputable def i6 (x0:List GState):Option (List GState):=if x0.length*32≤140737488355328∧x0.length≤4611686018427387904 then some x0 else none
theorem sB (x0:List GState):Ans (i6 x0) (fun r=>Does E 44 [.one (.s .far () 4 (x0.map GState.t))] [(false,[.s .own () 4 (r.map GState.t)])]):=by
 unfold i6
 refine K2 (fun h=>KX ?_)
 cases x0 with
 | nil=>exact rk h
 | cons y l=>exact rl y l h
theorem rz (x0:List GState) (h:x0.length≤1050000):Does E 44 [.one (.s .far () 4 (x0.map GState.t))] [(false,[.s .own () 4 ((id x0).map GState.t)])]:=by
 exact sB x0 _ (by unfold i6;rw [if_pos (by omega)];rfl)
noncomputable def qx (x0:GRun):Option (GRun) :=
  if (([]:List GState).length+x0.f3.length)*32≤140737488355328∧([]:List GState).length+x0.f3.length≤4611686018427387904 then some ((GRun.mk x0.f0 x0.f1 x0.f2 (([]:List GState)++x0.f3))) else none
theorem Ef (x0:GRun):Ans (qx x0) (fun r=>Does E 17 [.agg (GRun.t .far x0)] [(true,GRun.t .own r)]):=by
 unfold qx
 refine K2 (fun h0 => ?_)
 exact KX (DP Tryz.f17 [.rows ((([]:List GState)++x0.f3).map GState.t)] (AC (p:=(x0.f3.map GState.t).all (fun r=>r.all T.flat)=true∧((([]:List GState).map GState.t).length+(x0.f3.map GState.t).length)*32≤140737488355328∧(([]:List GState).map GState.t).length+(x0.f3.map GState.t).length≤4611686018427387904) (by exact AK (fun x=>rfl) h0)<|AC (p:=(([]:List GState).map GState.t)++(x0.f3.map GState.t)=(([]:List GState)++x0.f3).map GState.t) (by exact A6)<|AN))
theorem qc (x0:GRun) (h:am.sm x0):Does E 17 [.agg (GRun.t .far x0)] [(true,GRun.t .own (id x0))]:=by
 have:=h.2.2.1
 exact Ef x0 _ (by unfold qx;(first | rw [if_pos (by omega)] | rw [if_pos (by simp;omega)]);rfl)
noncomputable def qk (x0:GRun):Option (GRun) :=
  if x0.f3.length≤1050000 then some ((GRun.mk x0.f0 x0.f1 x0.f2 (id x0.f3))) else none
theorem DC (x0:GRun):Ans (qk x0) (fun r=>Does E 24 [.agg (GRun.t .far x0)] [(true,GRun.t .own r)]):=by
 unfold qk
 refine K2 (fun h0 => ?_)
 exact KX (DP Tryz.f24 [.ret [(false,[.s .own () 4 ((id x0.f3).map GState.t)])]] (AD (rz x0.f3 h0)<|AN))
theorem qb (x0:GRun) (h:am.sm x0):Does E 24 [.agg (GRun.t .far x0)] [(true,GRun.t .own (id x0))]:=by
 have:=h.2.2.1
 exact DC x0 _ (by unfold qk;(first | rw [if_pos (by omega)] | rw [if_pos (by simp;omega)]);rfl)
inductive ri where
 | x0 (v5_4:List GState)
def eb (q0:Kd) (v2_0 v2_1:ByteArray) (v2_2 v2_3:Int) (v2_4:Bool) (v2_5:List GTask) (v4_0:ByteArray) (v4_1 v4_2 v4_3:Int) (v4_4:List GState) (v5_0:ByteArray) (v5_1 v5_2 v5_3:Int) (v5_4:List GState) (v6:List Int) (v7:Int):US:=stL 74 [(2,.box () [tS v2_0,tS v2_1,tI v2_2,tI v2_3,tB v2_4,.s .far () 5 (v2_5.map (GTask.t q0))]),(4,.box () [tS v4_0,tI v4_1,tI v4_2,tI v4_3,.s .own () 4 (v4_4.map GState.t)]),(5,.box () [tS v5_0,tI v5_1,tI v5_2,tI v5_3,.s .own () 4 (v5_4.map GState.t)]),(6,.one (.s .own () 1 (v6.map etI))),(7,.one (tI v7))]
def lD (q0:Kd) (v4_0:ByteArray) (v4_1 v4_2 v4_3:Int) (v4_4:List GState) (v5_0:ByteArray) (v5_1 v5_2 v5_3:Int) (zv5_4:List GState):US:=stL 74 [(4,.box () [tS v4_0,tI v4_1,tI v4_2,tI v4_3,.s .own () 4 (v4_4.map GState.t)]),(5,.box () [tS v5_0,tI v5_1,tI v5_2,tI v5_3,.s .own () 4 (zv5_4.map GState.t)])]
abbrev kw:US→Exit→US→Prop:=Round E 6 (aw Tryz.f6 0)
def yN {q0:Kd} (v2_0 v2_1:ByteArray) (v2_2 v2_3:Int) (v2_4:Bool) (v2_5:List GTask) (v4_0:ByteArray) (v4_1 v4_2 v4_3:Int) (v4_4:List GState) (v5_0:ByteArray) (v5_1 v5_2 v5_3:Int) (v5_4:List GState) (v6:List Int) (v7:Int):ri→Prop
 | .x0 zv5_4=>Loops E 6 (aw Tryz.f6 0) (eb q0 v2_0 v2_1 v2_2 v2_3 v2_4 v2_5 v4_0 v4_1 v4_2 v4_3 v4_4 v5_0 v5_1 v5_2 v5_3 v5_4 v6 v7) (.exit 0) (lD q0 v4_0 v4_1 v4_2 v4_3 v4_4 v5_0 v5_1 v5_2 v5_3 zv5_4)
noncomputable def dp (v2_0 v2_1:ByteArray) (v2_2 v2_3:Int) (v2_5:List GTask) (v5_0:ByteArray) (v5_1 v5_2 v5_3:Int):List Int→Nat→Bool→(List GState)→Option ri
 | [],i,v2_4,v5_4=>some (.x0 v5_4)
 | hd::rest,i,v2_4,v5_4=>if am.sm (GDag.mk v2_0 v2_1 v2_2 v2_3 v2_4 v2_5) then if cH (GDag.mk v2_0 v2_1 v2_2 v2_3 v2_4 v2_5)=true then if (GRun.mk v5_0 (GSpan.mk v5_1 v5_2) v5_3 v5_4).f3.length=(GDag.mk v2_0 v2_1 v2_2 v2_3 v2_4 v2_5).f5.length then if 0≤hd∧hd<((GDag.mk v2_0 v2_1 v2_2 v2_3 v2_4 v2_5).f5.length:Int) then cond ((gr (GDag.mk v2_0 v2_1 v2_2 v2_3 v2_4 v2_5) (GRun.mk v5_0 (GSpan.mk v5_1 v5_2) v5_3 v5_4) hd).2)
  ((aA v5_4 hd).bind fun g1=>cond (g1.f0==(0:Int))
   (dp v2_0 v2_1 v2_2 v2_3 v2_5 v5_0 v5_1 v5_2 v5_3 rest (i+1) v2_4 (v5_4.set hd.toNat (GState.mk (4:Int) g1.f1 g1.f2 (0:Int))))
   (dp v2_0 v2_1 v2_2 v2_3 v2_5 v5_0 v5_1 v5_2 v5_3 rest (i+1) v2_4 v5_4))
  (dp v2_0 v2_1 v2_2 v2_3 v2_5 v5_0 v5_1 v5_2 v5_3 rest (i+1) v2_4 v5_4) else none else none else none else none
theorem yM {q0:Kd} (v2_0 v2_1:ByteArray) (v2_2 v2_3:Int) (v2_5:List GTask) (v4_0:ByteArray) (v4_1 v4_2 v4_3:Int) (v4_4:List GState) (v5_0:ByteArray) (v5_1 v5_2 v5_3:Int) (v6:List Int) (rest:List Int):∀ (i:Nat) (v2_4:Bool) (v5_4:List GState),(v6).drop i=rest→v6.length≤9223372036854775807→Ans (dp v2_0 v2_1 v2_2 v2_3 v2_5 v5_0 v5_1 v5_2 v5_3 rest i v2_4 v5_4) (yN (q0:=q0) v2_0 v2_1 v2_2 v2_3 v2_4 v2_5 v4_0 v4_1 v4_2 v4_3 v4_4 v5_0 v5_1 v5_2 v5_3 v5_4 v6 (i:Int)):=by
 induction rest with
 | nil =>
  intro i v2_4 v5_4 hE hl
  have hb:=bo hE
  unfold dp
  exact KX (KZ (show kw (eb q0 v2_0 v2_1 v2_2 v2_3 v2_4 v2_5 v4_0 v4_1 v4_2 v4_3 v4_4 v5_0 v5_1 v5_2 v5_3 v5_4 v6 (i:Int)) (.exit 0) (lD q0 v4_0 v4_1 v4_2 v4_3 v4_4 v5_0 v5_1 v5_2 v5_3 v5_4) from RP [.val (.int .i64 (v6.length:Int)),.b false] (ALn v6 etI<|AC hb<|AN)) (by intro h;cases h))
 | cons hd rest ih =>
  intro i v2_4 v5_4 hE hl
  have hb:=aY hE
  have hw:=aZ hE hl
  have hE2:=aH hE
  have hg:=bc hE
  unfold dp
  refine K2 (fun h2 => ?_)
  refine K2 (fun h3 => ?_)
  refine K2 (fun h4 => ?_)
  refine K2 (fun h5 => ?_)
  apply K0<;>intro h6
  ·refine K1 (fun g1 h7 => ?_)
   apply K0<;>intro h8
   ·exact (ih (i+1) v2_4 (v5_4.set hd.toNat (GState.mk (4:Int) g1.f1 g1.f2 (0:Int))) hE2 hl).mono fun y hy=>by have r:kw (eb q0 v2_0 v2_1 v2_2 v2_3 v2_4 v2_5 v4_0 v4_1 v4_2 v4_3 v4_4 v5_0 v5_1 v5_2 v5_3 v5_4 v6 (i:Int)) .normal (eb q0 v2_0 v2_1 v2_2 v2_3 v2_4 v2_5 v4_0 v4_1 v4_2 v4_3 v4_4 v5_0 v5_1 v5_2 v5_3 (v5_4.set hd.toNat (GState.mk (4:Int) g1.f1 g1.f2 (0:Int))) v6 (inc (i:Int))):=RP [.val (.int .i64 (v6.length:Int)),.b true,.row (etI hd),.ret [(false,[tB ((gr (GDag.mk v2_0 v2_1 v2_2 v2_3 v2_4 v2_5) (GRun.mk v5_0 (GSpan.mk v5_1 v5_2) v5_3 v5_4) hd).1)]),(false,[tB true])],.row (etI hd),.row (GState.t g1),.b true,.row (etI hd),.row (GState.t g1),.rows ((v5_4.set hd.toNat (GState.mk (4:Int) g1.f1 g1.f2 g1.f3)).map GState.t),.row (etI hd),.row (GState.t (GState.mk (4:Int) g1.f1 g1.f2 g1.f3)),.rows ((v5_4.set hd.toNat (GState.mk (4:Int) g1.f1 g1.f2 (0:Int))).map GState.t)] (ALn v6 etI<|AC hb<|AG etI hg<|AV (ψ:=fun k=>E.C k 20 [.agg (GDag.t .far q0 (GDag.mk v2_0 v2_1 v2_2 v2_3 v2_4 v2_5)),.agg (GRun.t .far (GRun.mk v5_0 (GSpan.mk v5_1 v5_2) v5_3 v5_4)),.one (tI hd)]=some [(false,[tB ((gr (GDag.mk v2_0 v2_1 v2_2 v2_3 v2_4 v2_5) (GRun.mk v5_0 (GSpan.mk v5_1 v5_2) v5_3 v5_4) hd).1)]),(false,[tB true])]) (K3 (ry (GDag.mk v2_0 v2_1 v2_2 v2_3 v2_4 v2_5) (GRun.mk v5_0 (GSpan.mk v5_1 v5_2) v5_3 v5_4) hd h2 h3 h4 h5) (by rw [h6]))<|AG etI hg<|AG GState.t h7<|AC h8<|AG etI hg<|AG GState.t h7<|AC (p:=(v5_4.map GState.t).set (0+hd.toNat) (ar (GState.t g1) 0 [tI (4:Int)])=(v5_4.set hd.toNat (GState.mk (4:Int) g1.f1 g1.f2 g1.f3)).map GState.t) (ed (by rfl))<|AG etI hg<|AC (p:=0≤hd∧hd<(((v5_4.set hd.toNat (GState.mk (4:Int) g1.f1 g1.f2 g1.f3)).map GState.t).length:Int)) (jx (co h7))<|AC (p:=((v5_4.set hd.toNat (GState.mk (4:Int) g1.f1 g1.f2 g1.f3)).map GState.t)[0+hd.toNat]?=some (GState.t (GState.mk (4:Int) g1.f1 g1.f2 g1.f3))) (eH (co h7))<|AC (p:=((v5_4.set hd.toNat (GState.mk (4:Int) g1.f1 g1.f2 g1.f3)).map GState.t).set (0+hd.toNat) (ar (GState.t (GState.mk (4:Int) g1.f1 g1.f2 g1.f3)) 3 [tI (0:Int)])=(v5_4.set hd.toNat (GState.mk (4:Int) g1.f1 g1.f2 (0:Int))).map GState.t) (kD (by rfl))<|AN);rw [hw] at r;cases y<;>exact KY r hy
   ·exact (ih (i+1) v2_4 v5_4 hE2 hl).mono fun y hy=>by have r:kw (eb q0 v2_0 v2_1 v2_2 v2_3 v2_4 v2_5 v4_0 v4_1 v4_2 v4_3 v4_4 v5_0 v5_1 v5_2 v5_3 v5_4 v6 (i:Int)) .normal (eb q0 v2_0 v2_1 v2_2 v2_3 v2_4 v2_5 v4_0 v4_1 v4_2 v4_3 v4_4 v5_0 v5_1 v5_2 v5_3 v5_4 v6 (inc (i:Int))):=RP [.val (.int .i64 (v6.length:Int)),.b true,.row (etI hd),.ret [(false,[tB ((gr (GDag.mk v2_0 v2_1 v2_2 v2_3 v2_4 v2_5) (GRun.mk v5_0 (GSpan.mk v5_1 v5_2) v5_3 v5_4) hd).1)]),(false,[tB true])],.row (etI hd),.row (GState.t g1),.b false] (ALn v6 etI<|AC hb<|AG etI hg<|AV (ψ:=fun k=>E.C k 20 [.agg (GDag.t .far q0 (GDag.mk v2_0 v2_1 v2_2 v2_3 v2_4 v2_5)),.agg (GRun.t .far (GRun.mk v5_0 (GSpan.mk v5_1 v5_2) v5_3 v5_4)),.one (tI hd)]=some [(false,[tB ((gr (GDag.mk v2_0 v2_1 v2_2 v2_3 v2_4 v2_5) (GRun.mk v5_0 (GSpan.mk v5_1 v5_2) v5_3 v5_4) hd).1)]),(false,[tB true])]) (K3 (ry (GDag.mk v2_0 v2_1 v2_2 v2_3 v2_4 v2_5) (GRun.mk v5_0 (GSpan.mk v5_1 v5_2) v5_3 v5_4) hd h2 h3 h4 h5) (by rw [h6]))<|AG etI hg<|AG GState.t h7<|AC h8<|AN);rw [hw] at r;cases y<;>exact KY r hy
  ·exact (ih (i+1) v2_4 v5_4 hE2 hl).mono fun y hy=>by have r:kw (eb q0 v2_0 v2_1 v2_2 v2_3 v2_4 v2_5 v4_0 v4_1 v4_2 v4_3 v4_4 v5_0 v5_1 v5_2 v5_3 v5_4 v6 (i:Int)) .normal (eb q0 v2_0 v2_1 v2_2 v2_3 v2_4 v2_5 v4_0 v4_1 v4_2 v4_3 v4_4 v5_0 v5_1 v5_2 v5_3 v5_4 v6 (inc (i:Int))):=RP [.val (.int .i64 (v6.length:Int)),.b true,.row (etI hd),.ret [(false,[tB ((gr (GDag.mk v2_0 v2_1 v2_2 v2_3 v2_4 v2_5) (GRun.mk v5_0 (GSpan.mk v5_1 v5_2) v5_3 v5_4) hd).1)]),(false,[tB false])]] (ALn v6 etI<|AC hb<|AG etI hg<|AV (ψ:=fun k=>E.C k 20 [.agg (GDag.t .far q0 (GDag.mk v2_0 v2_1 v2_2 v2_3 v2_4 v2_5)),.agg (GRun.t .far (GRun.mk v5_0 (GSpan.mk v5_1 v5_2) v5_3 v5_4)),.one (tI hd)]=some [(false,[tB ((gr (GDag.mk v2_0 v2_1 v2_2 v2_3 v2_4 v2_5) (GRun.mk v5_0 (GSpan.mk v5_1 v5_2) v5_3 v5_4) hd).1)]),(false,[tB false])]) (K3 (ry (GDag.mk v2_0 v2_1 v2_2 v2_3 v2_4 v2_5) (GRun.mk v5_0 (GSpan.mk v5_1 v5_2) v5_3 v5_4) hd h2 h3 h4 h5) (by rw [h6]))<|AN);rw [hw] at r;cases y<;>exact KY r hy
noncomputable def li (x0:GDag) (x1:GRun):Option (GRun) :=
  if am.sm x1 then if am.sm x0 then cond (cH x0)
   (cond ((x1.f3.length:Int) != (x0.f5.length:Int))
    (some ((id x1)))
    (if am.sm x0.f5 then if cN x0.f5 then if (da x0.f5).length≤9223372036854775807 then (dp x0.f0 x0.f1 x0.f2 x0.f3 x0.f5 ((id x1).f0) (((id x1).f1).f0) (((id x1).f1).f1) ((id x1).f2) (da x0.f5) 0 x0.f4 ((id x1).f3)).bind fun y=>match y with
     | .x0 w0_5_4=>(some ((GRun.mk ((id x1).f0) ((id x1).f1) ((id x1).f2) w0_5_4))) else none else none else none))
   (some ((id x1))) else none else none
theorem Al {q0:Kd} (x0:GDag) (x1:GRun):Ans (li x0 x1) (fun r=>Does E 6 [.agg (GDag.t .far q0 x0),.agg (GRun.t .far x1)] [(true,GRun.t .own r)]):=by
 unfold li
 refine K2 (fun h0 => ?_)
 refine K2 (fun h1 => ?_)
 apply K0<;>intro h2
 ·apply K0<;>intro h3
  ·exact KX (DP Tryz.f6 [.ret [(true,GRun.t .own (id x1))],rT,.val (.int .i64 (x1.f3.length:Int)),.val (.int .i64 (x0.f5.length:Int)),.b true] (AD (qc x1 h0)<|AV (ψ:=fun k=>E.C k 18 [.agg (GDag.t .far q0 x0)]=some [(false,[tB true])]) (K3 (tA x0 h1) (by rw [h2]))<|ALn x1.f3 GState.t<|ALn x0.f5 (GTask.t q0)<|AC h3<|AN))
  ·refine K2 (fun h4 => ?_)
   refine K2 (fun h5 => ?_)
   refine K2 (fun hl3 => ?_)
   refine K1 (fun y hy => ?_)
   replace hy:=yM (q0:=q0) x0.f0 x0.f1 x0.f2 x0.f3 x0.f5 ByteArray.empty (0:Int) (0:Int) (0:Int) ([]) ((id x1).f0) (((id x1).f1).f0) (((id x1).f1).f1) ((id x1).f2) (da x0.f5) (da x0.f5) 0 x0.f4 ((id x1).f3) rfl hl3 y hy
   cases y with
   | x0 w0_5_4 =>
    have h6:=hy
    exact KX (DP Tryz.f6 [.ret [(true,GRun.t .own (id x1))],rT,.val (.int .i64 (x1.f3.length:Int)),.val (.int .i64 (x0.f5.length:Int)),.b false,.ret [(false,[.s .own () 1 ((da x0.f5).map etI)])],.lp (.exit 0) (lD q0 ByteArray.empty (0:Int) (0:Int) (0:Int) ([]) ((id x1).f0) (((id x1).f1).f0) (((id x1).f1).f1) ((id x1).f2) w0_5_4)] (AD (qc x1 h0)<|AV (ψ:=fun k=>E.C k 18 [.agg (GDag.t .far q0 x0)]=some [(false,[tB true])]) (K3 (tA x0 h1) (by rw [h2]))<|ALn x1.f3 GState.t<|ALn x0.f5 (GTask.t q0)<|AC h3<|AV (ψ:=fun k=>E.C k 19 [.one (.s .far () 5 (x0.f5.map (GTask.t q0)))]=some [(false,[.s .own () 1 ((da x0.f5).map etI)])]) (tC x0.f5 h4 h5)<|AL h6<|AN))
 ·exact KX (DP Tryz.f6 [.ret [(true,GRun.t .own (id x1))],rF] (AD (qc x1 h0)<|AV (ψ:=fun k=>E.C k 18 [.agg (GDag.t .far q0 x0)]=some [(false,[tB false])]) (K3 (tA x0 h1) (by rw [h2]))<|AN))
inductive nG where
 | x0 (v0_4:List GState)
def cu (q1:Kd) (v0_0:ByteArray) (v0_1 v0_2 v0_3:Int) (v0_4:List GState) (v3_0 v3_1:ByteArray) (v3_2 v3_3:Int) (v3_4:Bool) (v3_5:List GTask) (v9:List Int) (v10 v11:Int):US:=stL 51 [(0,.box () [tS v0_0,tI v0_1,tI v0_2,tI v0_3,.s .own () 4 (v0_4.map GState.t)]),(3,.box () [tS v3_0,tS v3_1,tI v3_2,tI v3_3,tB v3_4,.s .far () 5 (v3_5.map (GTask.t q1))]),(9,.one (.s .own () 1 (v9.map etI))),(10,.one (tI v10)),(11,.one (tI v11))]
def iQ (q1:Kd) (v0_0:ByteArray) (v0_1 v0_2 v0_3:Int) (zv0_4:List GState):US:=stL 51 [(0,.box () [tS v0_0,tI v0_1,tI v0_2,tI v0_3,.s .own () 4 (zv0_4.map GState.t)])]
abbrev gP:US→Exit→US→Prop:=Round E 26 (aw Tryz.f26 0)
def ue {q1:Kd} (v0_0:ByteArray) (v0_1 v0_2 v0_3:Int) (v0_4:List GState) (v3_0 v3_1:ByteArray) (v3_2 v3_3:Int) (v3_4:Bool) (v3_5:List GTask) (v9:List Int) (v10 v11:Int):nG→Prop
 | .x0 zv0_4=>Loops E 26 (aw Tryz.f26 0) (cu q1 v0_0 v0_1 v0_2 v0_3 v0_4 v3_0 v3_1 v3_2 v3_3 v3_4 v3_5 v9 v10 v11) (.exit 0) (iQ q1 v0_0 v0_1 v0_2 v0_3 zv0_4)
noncomputable def bY (v0_0:ByteArray) (v0_1 v0_2 v0_3:Int) (v3_0 v3_1:ByteArray) (v3_2 v3_3:Int) (v3_5:List GTask):List Int→Nat→(List GState)→Bool→Option nG
 | [],i,v0_4,v3_4=>some (.x0 v0_4)
 | hd::rest,i,v0_4,v3_4=>if am.sm (GDag.mk v3_0 v3_1 v3_2 v3_3 v3_4 v3_5) then if cH (GDag.mk v3_0 v3_1 v3_2 v3_3 v3_4 v3_5)=true then if (GRun.mk v0_0 (GSpan.mk v0_1 v0_2) v0_3 v0_4).f3.length=(GDag.mk v3_0 v3_1 v3_2 v3_3 v3_4 v3_5).f5.length then if 0≤hd∧hd<((GDag.mk v3_0 v3_1 v3_2 v3_3 v3_4 v3_5).f5.length:Int) then cond ((fH (GDag.mk v3_0 v3_1 v3_2 v3_3 v3_4 v3_5) (GRun.mk v0_0 (GSpan.mk v0_1 v0_2) v0_3 v0_4) hd).2)
  ((aA v0_4 hd).bind fun g1=>cond (g1.f0==(0:Int))
   (bY v0_0 v0_1 v0_2 v0_3 v3_0 v3_1 v3_2 v3_3 v3_5 rest (i+1) (v0_4.set hd.toNat (GState.mk (4:Int) g1.f1 g1.f2 (0:Int))) v3_4)
   (bY v0_0 v0_1 v0_2 v0_3 v3_0 v3_1 v3_2 v3_3 v3_5 rest (i+1) v0_4 v3_4))
  (bY v0_0 v0_1 v0_2 v0_3 v3_0 v3_1 v3_2 v3_3 v3_5 rest (i+1) v0_4 v3_4) else none else none else none else none
theorem ud {q1:Kd} (v0_0:ByteArray) (v0_1 v0_2 v0_3:Int) (v3_0 v3_1:ByteArray) (v3_2 v3_3:Int) (v3_5:List GTask) (v9:List Int) (rest:List Int):∀ (i:Nat) (v0_4:List GState) (v3_4:Bool),(v9).drop i=rest→v9.length≤9223372036854775807→Ans (bY v0_0 v0_1 v0_2 v0_3 v3_0 v3_1 v3_2 v3_3 v3_5 rest i v0_4 v3_4) (ue (q1:=q1) v0_0 v0_1 v0_2 v0_3 v0_4 v3_0 v3_1 v3_2 v3_3 v3_4 v3_5 v9 (v9.length:Int) (i:Int)):=by
 induction rest with
 | nil =>
  intro i v0_4 v3_4 hE hl
  have hb:=bo hE
  unfold bY
  exact KX (KZ (show gP (cu q1 v0_0 v0_1 v0_2 v0_3 v0_4 v3_0 v3_1 v3_2 v3_3 v3_4 v3_5 v9 (v9.length:Int) (i:Int)) (.exit 0) (iQ q1 v0_0 v0_1 v0_2 v0_3 v0_4) from RP [.b false] (AC hb<|AN)) (by intro h;cases h))
 | cons hd rest ih =>
  intro i v0_4 v3_4 hE hl
  have hb:=aY hE
  have hw:=aZ hE hl
  have hE2:=aH hE
  have hg:=bc hE
  unfold bY
  refine K2 (fun h2 => ?_)
  refine K2 (fun h3 => ?_)
  refine K2 (fun h4 => ?_)
  refine K2 (fun h5 => ?_)
  apply K0<;>intro h6
  ·refine K1 (fun g1 h7 => ?_)
   apply K0<;>intro h8
   ·exact (ih (i+1) (v0_4.set hd.toNat (GState.mk (4:Int) g1.f1 g1.f2 (0:Int))) v3_4 hE2 hl).mono fun y hy=>by have r:gP (cu q1 v0_0 v0_1 v0_2 v0_3 v0_4 v3_0 v3_1 v3_2 v3_3 v3_4 v3_5 v9 (v9.length:Int) (i:Int)) .normal (cu q1 v0_0 v0_1 v0_2 v0_3 (v0_4.set hd.toNat (GState.mk (4:Int) g1.f1 g1.f2 (0:Int))) v3_0 v3_1 v3_2 v3_3 v3_4 v3_5 v9 (v9.length:Int) (inc (i:Int))):=RP [.b true,.row (etI hd),.ret [(false,[tB ((fH (GDag.mk v3_0 v3_1 v3_2 v3_3 v3_4 v3_5) (GRun.mk v0_0 (GSpan.mk v0_1 v0_2) v0_3 v0_4) hd).1)]),(false,[tB true])],.row (GState.t g1),.b true,.row (GState.t g1),.rows ((v0_4.set hd.toNat (GState.mk (4:Int) g1.f1 g1.f2 g1.f3)).map GState.t),.row (GState.t (GState.mk (4:Int) g1.f1 g1.f2 g1.f3)),.rows ((v0_4.set hd.toNat (GState.mk (4:Int) g1.f1 g1.f2 (0:Int))).map GState.t)] (AC hb<|AG etI hg<|AV (ψ:=fun k=>E.C k 51 [.agg (GDag.t .far q1 (GDag.mk v3_0 v3_1 v3_2 v3_3 v3_4 v3_5)),.agg (GRun.t .far (GRun.mk v0_0 (GSpan.mk v0_1 v0_2) v0_3 v0_4)),.one (tI hd),.fni 52 []]=some [(false,[tB ((fH (GDag.mk v3_0 v3_1 v3_2 v3_3 v3_4 v3_5) (GRun.mk v0_0 (GSpan.mk v0_1 v0_2) v0_3 v0_4) hd).1)]),(false,[tB true])]) (K3 (jI (GDag.mk v3_0 v3_1 v3_2 v3_3 v3_4 v3_5) (GRun.mk v0_0 (GSpan.mk v0_1 v0_2) v0_3 v0_4) hd h2 h3 h4 h5) (by rw [h6]))<|AG GState.t h7<|AC h8<|AG GState.t h7<|AC (p:=(v0_4.map GState.t).set (0+hd.toNat) (ar (GState.t g1) 0 [tI (4:Int)])=(v0_4.set hd.toNat (GState.mk (4:Int) g1.f1 g1.f2 g1.f3)).map GState.t) (ed (by rfl))<|AC (p:=0≤hd∧hd<(((v0_4.set hd.toNat (GState.mk (4:Int) g1.f1 g1.f2 g1.f3)).map GState.t).length:Int)) (jx (co h7))<|AC (p:=((v0_4.set hd.toNat (GState.mk (4:Int) g1.f1 g1.f2 g1.f3)).map GState.t)[0+hd.toNat]?=some (GState.t (GState.mk (4:Int) g1.f1 g1.f2 g1.f3))) (eH (co h7))<|AC (p:=((v0_4.set hd.toNat (GState.mk (4:Int) g1.f1 g1.f2 g1.f3)).map GState.t).set (0+hd.toNat) (ar (GState.t (GState.mk (4:Int) g1.f1 g1.f2 g1.f3)) 3 [tI (0:Int)])=(v0_4.set hd.toNat (GState.mk (4:Int) g1.f1 g1.f2 (0:Int))).map GState.t) (kD (by rfl))<|AN);rw [hw] at r;cases y<;>exact KY r hy
   ·exact (ih (i+1) v0_4 v3_4 hE2 hl).mono fun y hy=>by have r:gP (cu q1 v0_0 v0_1 v0_2 v0_3 v0_4 v3_0 v3_1 v3_2 v3_3 v3_4 v3_5 v9 (v9.length:Int) (i:Int)) .normal (cu q1 v0_0 v0_1 v0_2 v0_3 v0_4 v3_0 v3_1 v3_2 v3_3 v3_4 v3_5 v9 (v9.length:Int) (inc (i:Int))):=RP [.b true,.row (etI hd),.ret [(false,[tB ((fH (GDag.mk v3_0 v3_1 v3_2 v3_3 v3_4 v3_5) (GRun.mk v0_0 (GSpan.mk v0_1 v0_2) v0_3 v0_4) hd).1)]),(false,[tB true])],.row (GState.t g1),.b false] (AC hb<|AG etI hg<|AV (ψ:=fun k=>E.C k 51 [.agg (GDag.t .far q1 (GDag.mk v3_0 v3_1 v3_2 v3_3 v3_4 v3_5)),.agg (GRun.t .far (GRun.mk v0_0 (GSpan.mk v0_1 v0_2) v0_3 v0_4)),.one (tI hd),.fni 52 []]=some [(false,[tB ((fH (GDag.mk v3_0 v3_1 v3_2 v3_3 v3_4 v3_5) (GRun.mk v0_0 (GSpan.mk v0_1 v0_2) v0_3 v0_4) hd).1)]),(false,[tB true])]) (K3 (jI (GDag.mk v3_0 v3_1 v3_2 v3_3 v3_4 v3_5) (GRun.mk v0_0 (GSpan.mk v0_1 v0_2) v0_3 v0_4) hd h2 h3 h4 h5) (by rw [h6]))<|AG GState.t h7<|AC h8<|AN);rw [hw] at r;cases y<;>exact KY r hy
  ·exact (ih (i+1) v0_4 v3_4 hE2 hl).mono fun y hy=>by have r:gP (cu q1 v0_0 v0_1 v0_2 v0_3 v0_4 v3_0 v3_1 v3_2 v3_3 v3_4 v3_5 v9 (v9.length:Int) (i:Int)) .normal (cu q1 v0_0 v0_1 v0_2 v0_3 v0_4 v3_0 v3_1 v3_2 v3_3 v3_4 v3_5 v9 (v9.length:Int) (inc (i:Int))):=RP [.b true,.row (etI hd),.ret [(false,[tB ((fH (GDag.mk v3_0 v3_1 v3_2 v3_3 v3_4 v3_5) (GRun.mk v0_0 (GSpan.mk v0_1 v0_2) v0_3 v0_4) hd).1)]),(false,[tB false])]] (AC hb<|AG etI hg<|AV (ψ:=fun k=>E.C k 51 [.agg (GDag.t .far q1 (GDag.mk v3_0 v3_1 v3_2 v3_3 v3_4 v3_5)),.agg (GRun.t .far (GRun.mk v0_0 (GSpan.mk v0_1 v0_2) v0_3 v0_4)),.one (tI hd),.fni 52 []]=some [(false,[tB ((fH (GDag.mk v3_0 v3_1 v3_2 v3_3 v3_4 v3_5) (GRun.mk v0_0 (GSpan.mk v0_1 v0_2) v0_3 v0_4) hd).1)]),(false,[tB false])]) (K3 (jI (GDag.mk v3_0 v3_1 v3_2 v3_3 v3_4 v3_5) (GRun.mk v0_0 (GSpan.mk v0_1 v0_2) v0_3 v0_4) hd h2 h3 h4 h5) (by rw [h6]))<|AN);rw [hw] at r;cases y<;>exact KY r hy
noncomputable def ie (x0:GRun) (x1:GDag):Option (GRun) :=
  if am.sm x1 then if cN x1.f5 then if (eI x1).length≤9223372036854775807 then (bY x0.f0 x0.f1.f0 x0.f1.f1 x0.f2 x1.f0 x1.f1 x1.f2 x1.f3 x1.f5 (eI x1) 0 x0.f3 x1.f4).bind fun y=>match y with
   | .x0 w0_0_4=>(some ((GRun.mk x0.f0 x0.f1 x0.f2 w0_0_4))) else none else none else none
theorem vc {q1:Kd} (x0:GRun) (x1:GDag):Ans (ie x0 x1) (fun r=>Does E 26 [.box () (GRun.t .own x0),.agg (GDag.t .far q1 x1)] [(true,GRun.t .own r)]):=by
 unfold ie
 refine K2 (fun h0 => ?_)
 refine K2 (fun h1 => ?_)
 refine K2 (fun hl1 => ?_)
 refine K1 (fun y hy => ?_)
 replace hy:=ud (q1:=q1) x0.f0 x0.f1.f0 x0.f1.f1 x0.f2 x1.f0 x1.f1 x1.f2 x1.f3 x1.f5 (eI x1) (eI x1) 0 x0.f3 x1.f4 rfl hl1 y hy
 cases y with
 | x0 w0_0_4 =>
  have h2:=hy
  exact KX (DP Tryz.f26 [.ret [(false,[.s .own () 1 ((eI x1).map etI)])],.val (.int .i64 ((eI x1).length:Int)),.lp (.exit 0) (iQ q1 x0.f0 x0.f1.f0 x0.f1.f1 x0.f2 w0_0_4)] (AV (ψ:=fun k=>E.C k 50 [.agg (GDag.t .far q1 x1)]=some [(false,[.s .own () 1 ((eI x1).map etI)])]) (vd x1 h0 h1)<|ALn (eI x1) etI<|AL h2<|AN))
noncomputable def mQ (d:GDag) (g:GRun) (k:Int) (v:List GState):List GState :=
 cond (fH d (GRun.mk g.f0 (GSpan.mk g.f1.f0 g.f1.f1) g.f2 v) k).2 (match aA v k with | some x=>cond (x.f0==0) (v.set k.toNat ⟨4,x.f1,x.f2,0⟩) v | none=>v) v
noncomputable def lK (d:GDag) (g:GRun):List Int→List GState→List GState
 | [],v=>v
 | k::l,v=>lK d g l (mQ d g k v)
noncomputable def mP (r:GRun) (d:GDag):GRun:=⟨r.f0,r.f1,r.f2,lK d r (da d.f5) r.f3⟩
noncomputable def ai (d:GDag) (r:GRun):GRun:=cond (cH d&&((r.f3.length:Int)==(d.f5.length:Int))) (mP r d) r
theorem tH (d:GDag) (g:GRun) (k:Int) (v:List GState):(mQ d g k v).length=v.length:=by
 unfold mQ
 cases (fH d (GRun.mk g.f0 (GSpan.mk g.f1.f0 g.f1.f1) g.f2 v) k).2 with
 | false=>rfl
 | true =>
  cases q:aA v k with
  | none=>rfl
  | some x =>
   show (cond (x.f0==0) (v.set k.toNat ⟨4,x.f1,x.f2,0⟩) v).length=v.length
   cases x.f0==0<;>simp
theorem vk (d:GDag) (g:GRun):∀ (l:List Int) (v:List GState),(lK d g l v).length=v.length
 | [],v=>rfl
 | k::l,v=>by unfold lK;rw [vk d g l,tH]
theorem x8 (d:GDag) (g:GRun) (h:am.sm d) (hd:cH d=true):∀ (l:List Int) (i:Nat) (v:List GState),v.length=d.f5.length→(∀ x∈l,0≤x∧x<(d.f5.length:Int)) →
  dp d.f0 d.f1 d.f2 d.f3 d.f5 g.f0 g.f1.f0 g.f1.f1 g.f2 l i d.f4 v=some (.x0 (lK d g l v)) ∧
  bY g.f0 g.f1.f0 g.f1.f1 g.f2 d.f0 d.f1 d.f2 d.f3 d.f5 l i v d.f4=some (.x0 (lK d g l v))
 | [],i,v,_,_=>⟨rfl,rfl⟩
 | k::l,i,v,hv,hl=>by
  have hk:=hl k (by simp)
  have e:GDag.mk d.f0 d.f1 d.f2 d.f3 d.f4 d.f5=d:=rfl
  have hv2:(GRun.mk g.f0 (GSpan.mk g.f1.f0 g.f1.f1) g.f2 v).f3.length=d.f5.length:=hv
  have eu:gr d (GRun.mk g.f0 (GSpan.mk g.f1.f0 g.f1.f1) g.f2 v) k=((EP d (GRun.mk g.f0 (GSpan.mk g.f1.f0 g.f1.f1) g.f2 v) k).1,(fH d (GRun.mk g.f0 (GSpan.mk g.f1.f0 g.f1.f1) g.f2 v) k).2):=rfl
  have ih:=x8 d g h hd l (i+1) (mQ d g k v) (by rw [tH];exact hv) fun y hy=>hl y (by simp [hy])
  obtain ⟨x,hx,_⟩:=lR (l:=v) (k:=k) (by omega)
  unfold dp bY lK
  simp only [e,if_pos h,if_pos hd,if_pos hv2,if_pos hk,eu]
  rw [← ih.1]
  refine ⟨?_,?_⟩
  ·unfold mQ
   cases (fH d (GRun.mk g.f0 (GSpan.mk g.f1.f0 g.f1.f1) g.f2 v) k).2 with
   | false=>rfl
   | true =>
    simp only [hx,Option.bind_some,cond_true]
    cases x.f0==0<;>rfl
  ·rw [← ih.2]
   unfold mQ
   cases (fH d (GRun.mk g.f0 (GSpan.mk g.f1.f0 g.f1.f1) g.f2 v) k).2 with
   | false=>rfl
   | true =>
    simp only [hx,Option.bind_some,cond_true]
    cases x.f0==0<;>rfl
theorem E1 (r:GRun) (d:GDag) (h:am.sm d) (hd:cH d=true) (hl:r.f3.length=d.f5.length):ie r d=some (mP r d):=by
 obtain ⟨h4, -, -,hg,ho⟩:=rJ hd
 have e:eI d=da d.f5:=rfl
 unfold ie
 rw [if_pos h,if_pos hg,e,ho,if_pos (by omega),(x8 d r h hd (da d.f5) 0 r.f3 hl (zp hg).2).2]
 rfl
theorem Da (d:GDag) (r:GRun) (h:am.sm d) (g:am.sm r):li d r=some (ai d r):=by
 unfold li ai
 rw [if_pos g,if_pos h]
 cases q:cH d with
 | false=>rfl
 | true =>
  have e:((r.f3.length:Int) != (d.f5.length:Int)) = !((r.f3.length:Int)==(d.f5.length:Int)):=rfl
  rw [e]
  cases q2:((r.f3.length:Int)==(d.f5.length:Int)) with
  | false=>rfl
  | true =>
   have hl:r.f3.length=d.f5.length:=by rw [beq_iff_eq] at q2;omega
   obtain ⟨h4, -, -,hg,ho⟩:=rJ q
   have hs:am.sm d.f5:=h.2.2
   simp only [id,Bool.not_true,cond_false,cond_true,Bool.true_and,if_pos hs,if_pos hg]
   rw [if_pos (by omega),(x8 d r h q (da d.f5) 0 r.f3 hl (zp hg).2).1]
   rfl
theorem CQ (d:GDag) (r:GRun) (g:am.sm r):am.sm (ai d r):=by
 unfold ai
 cases cH d&&((r.f3.length:Int)==(d.f5.length:Int)) with
 | false=>exact g
 | true=>exact ⟨g.1,g.2.1,⟨by show (lK d r (da d.f5) r.f3).length≤_;rw [vk];exact g.2.2.1,fun y _=>trivial⟩⟩
theorem fz {q0:Kd} (x0:GDag) (x1:GRun) (h:am.sm x0) (g:am.sm x1):Does E 6 [.agg (GDag.t .far q0 x0),.agg (GRun.t .far x1)] [(true,GRun.t .own (ai x0 x1))]:=by
 exact Al x0 x1 _ (Da x0 x1 h g)
theorem u6 {q1:Kd} (x0:GRun) (x1:GDag) (h:am.sm x1) (g:am.sm x0) (hd:cH x1=true) (hl:x0.f3.length=x1.f5.length):Does E 26 [.box () (GRun.t .own x0),.agg (GDag.t .far q1 x1)] [(true,GRun.t .own (mP x0 x1))]:=by
 exact vc x0 x1 _ (E1 x0 x1 h hd hl)
noncomputable def nK (x0:GDag) (x1:GRun):Option (GRun) :=
  if am.sm x1 then cond ((x1.f3.length:Int)==(x0.f5.length:Int))
   (if am.sm x0 then cond (cH x0)
    (if am.sm (id x1) then if cH x0=true then if (id x1).f3.length=x0.f5.length then some ((mP (id x1) x0)) else none else none else none)
    (some ((id x1))) else none)
   (some ((id x1))) else none
theorem zU {q0:Kd} (x0:GDag) (x1:GRun):Ans (nK x0 x1) (fun r=>Does E 9 [.agg (GDag.t .far q0 x0),.agg (GRun.t .far x1)] [(true,GRun.t .own r)]):=by
 unfold nK
 refine K2 (fun h0 => ?_)
 apply K0<;>intro h1
 ·refine K2 (fun h2 => ?_)
  apply K0<;>intro h3
  ·refine K2 (fun h4 => ?_)
   refine K2 (fun h5 => ?_)
   refine K2 (fun h6 => ?_)
   exact KX (DP Tryz.f9 [.ret [(true,GRun.t .own (id x1))],.val (.int .i64 (x1.f3.length:Int)),.val (.int .i64 (x0.f5.length:Int)),.b true,rT,.ret [(true,GRun.t .own (mP (id x1) x0))]] (AD (qb x1 h0)<|ALn x1.f3 GState.t<|ALn x0.f5 (GTask.t q0)<|AC h1<|AV (ψ:=fun k=>E.C k 25 [.agg (GDag.t .far q0 x0)]=some [(false,[tB true])]) (K3 (y7 x0 h2) (by rw [h3]))<|AV (ψ:=fun k=>E.C k 26 [.box () (GRun.t .own (id x1)),.agg (GDag.t .far q0 x0)]=some [(true,GRun.t .own (mP (id x1) x0))]) (u6 (id x1) x0 h2 h4 h5 h6)<|AN))
  ·exact KX (DP Tryz.f9 [.ret [(true,GRun.t .own (id x1))],.val (.int .i64 (x1.f3.length:Int)),.val (.int .i64 (x0.f5.length:Int)),.b true,rF] (AD (qb x1 h0)<|ALn x1.f3 GState.t<|ALn x0.f5 (GTask.t q0)<|AC h1<|AV (ψ:=fun k=>E.C k 25 [.agg (GDag.t .far q0 x0)]=some [(false,[tB false])]) (K3 (y7 x0 h2) (by rw [h3]))<|AN))
 ·exact KX (DP Tryz.f9 [.ret [(true,GRun.t .own (id x1))],.val (.int .i64 (x1.f3.length:Int)),.val (.int .i64 (x0.f5.length:Int)),.b false] (AD (qb x1 h0)<|ALn x1.f3 GState.t<|ALn x0.f5 (GTask.t q0)<|AC h1<|AN))
theorem eJ {q0:Kd} (x0:GDag) (x1:GRun) (h:am.sm x0) (g:am.sm x1):Does E 9 [.agg (GDag.t .far q0 x0),.agg (GRun.t .far x1)] [(true,GRun.t .own (ai x0 x1))]:=by
 exact zU x0 x1 _ (by
  have g2:am.sm (id x1):=g
  unfold nK ai
  rw [if_pos g]
  cases q:((x1.f3.length:Int)==(x0.f5.length:Int)) with
  | false=>cases cH x0<;>rfl
  | true =>
   have hl:(id x1).f3.length=x0.f5.length:=by rw [beq_iff_eq] at q;show x1.f3.length=_;omega
   rw [cond_true,if_pos h]
   cases q2:cH x0 with
   | false=>rfl
   | true=>rw [cond_true,if_pos g2,if_pos rfl,if_pos hl];rfl)
end Go.Proofs.YtdcbjglpdbcjpaaGreatDoor.Am
