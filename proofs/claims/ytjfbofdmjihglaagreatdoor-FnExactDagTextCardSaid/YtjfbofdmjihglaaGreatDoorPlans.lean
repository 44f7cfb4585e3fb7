/- Plans. -/
import Derived.Test.YtjfbofdmjihglaaGreatDoorRules
namespace Go.Proofs.YtjfbofdmjihglaaGreatDoor.Am
open Go Go.Proofs Classical
set_option maxRecDepth 100000
set_option linter.unusedVariables false
set_option linter.unusedSimpArgs false
inductive sQ where
 | ret (v2:Bool)
 | x0 
def cn (v0:ByteArray) (v3:Int):US:=stL 46 [(0,.one (tS v0)),(3,.one (tI v3))]
def eU (zv2:Bool):US:=stL 46 [(2,.one (tB zv2))]
def mq  : US:=stL 46 []
abbrev eP:US→Exit→US→Prop:=Round E 57 (au Tryz.f57 0)
def Ay (v0:ByteArray) (v3:Int):sQ→Prop
 | .ret zv2=>Loops E 57 (au Tryz.f57 0) (cn v0 v3) .ret (eU zv2)
 | .x0=>Loops E 57 (au Tryz.f57 0) (cn v0 v3) (.exit 0) (mq)
noncomputable def d3  : List Int→Nat→Option sQ
 | [],i=>some (.x0)
 | hd::rest,i=>cond (decide (hd<(97:Int)))
  (cond (decide (hd<(48:Int)))
   (some (.ret false))
   (cond (decide (hd>(57:Int)))
    (some (.ret false))
    (d3 rest (i+1))))
  (cond (decide (hd>(122:Int)))
   (cond (decide (hd<(48:Int)))
    (some (.ret false))
    (cond (decide (hd>(57:Int)))
     (some (.ret false))
     (d3 rest (i+1))))
   (d3 rest (i+1)))
theorem Ax (v0:ByteArray) (rest:List Int):∀ (i:Nat) ,(bu v0).drop i=rest→v0.size≤9223372036854775807→Ans (d3 rest i) (Ay v0 (i:Int)):=by
 induction rest with
 | nil =>
  intro i hE hl
  have hb:=m0 hE
  unfold d3
  exact Ib (Id (show eP (cn v0 (i:Int)) (.exit 0) (mq) from RP [.b false] (AC hb<|AN)) (by intro h;cases h))
 | cons hd rest ih =>
  intro i hE hl
  have hb:=l7 hE
  have hw:=l8 hE hl
  have hE2:=aG hE
  have hp:=oF hE
  obtain rfl:=oE hE
  unfold d3
  apply Ie<;>intro h2
  ·apply Ie<;>intro h3
   ·exact Ib (Id (show eP (cn v0 (i:Int)) .ret (eU false) from RP [.b true,.b true,.b true] (AC hb<|AC hp<|AC h2<|AC hp<|AC h3<|AN)) (by intro h;cases h))
   ·apply Ie<;>intro h4
    ·exact Ib (Id (show eP (cn v0 (i:Int)) .ret (eU false) from RP [.b true,.b true,.b false,.b true] (AC hb<|AC hp<|AC h2<|AC hp<|AC h3<|AC hp<|AC h4<|AN)) (by intro h;cases h))
    ·exact (ih (i+1) hE2 hl).mono fun y hy=>by have r:eP (cn v0 (i:Int)) .normal (cn v0 (inc (i:Int))):=RP [.b true,.b true,.b false,.b false] (AC hb<|AC hp<|AC h2<|AC hp<|AC h3<|AC hp<|AC h4<|AN);rw [hw] at r;cases y<;>exact Ic r hy
  ·apply Ie<;>intro h3
   ·apply Ie<;>intro h4
    ·exact Ib (Id (show eP (cn v0 (i:Int)) .ret (eU false) from RP [.b true,.b false,.b true,.b true] (AC hb<|AC hp<|AC h2<|AC hp<|AC h3<|AC hp<|AC h4<|AN)) (by intro h;cases h))
    ·apply Ie<;>intro h5
     ·exact Ib (Id (show eP (cn v0 (i:Int)) .ret (eU false) from RP [.b true,.b false,.b true,.b false,.b true] (AC hb<|AC hp<|AC h2<|AC hp<|AC h3<|AC hp<|AC h4<|AC hp<|AC h5<|AN)) (by intro h;cases h))
     ·exact (ih (i+1) hE2 hl).mono fun y hy=>by have r:eP (cn v0 (i:Int)) .normal (cn v0 (inc (i:Int))):=RP [.b true,.b false,.b true,.b false,.b false] (AC hb<|AC hp<|AC h2<|AC hp<|AC h3<|AC hp<|AC h4<|AC hp<|AC h5<|AN);rw [hw] at r;cases y<;>exact Ic r hy
   ·exact (ih (i+1) hE2 hl).mono fun y hy=>by have r:eP (cn v0 (i:Int)) .normal (cn v0 (inc (i:Int))):=RP [.b true,.b false,.b false] (AC hb<|AC hp<|AC h2<|AC hp<|AC h3<|AN);rw [hw] at r;cases y<;>exact Ic r hy
noncomputable def mJ (x0:ByteArray):Option (Bool) :=
  cond (aB (x0.size:Int) (1:Int) (8:Int))
   (if 0≤(0:Int)∧(0:Int)<(x0.size:Int) then cond (decide ((eG x0 (0:Int))<(97:Int)))
    (some (false))
    (cond (decide ((eG x0 (0:Int))>(122:Int)))
     (some (false))
     (if x0.size≤9223372036854775807 then (d3 (bu x0) 0).bind fun y=>match y with
      | .ret w0_2=>(some (w0_2))
      | .x0=>(some (true)) else none)) else none)
   (some (false))
theorem Ck (x0:ByteArray):Ans (mJ x0) (fun r=>Does E 57 [.one (tS x0)] [(false,[tB r])]):=by
 unfold mJ
 apply Ie<;>intro h0
 ·refine Ig (fun h1 => ?_)
  apply Ie<;>intro h2
  ·exact Ib (DP Tryz.f57 [rT,.b true] (AD (Ij (bh (x0.size:Int) (1:Int) (8:Int)) h0)<|AC h1<|AC h2<|AN))
  ·apply Ie<;>intro h3
   ·exact Ib (DP Tryz.f57 [rT,.b false,.b true] (AD (Ij (bh (x0.size:Int) (1:Int) (8:Int)) h0)<|AC h1<|AC h2<|AC h1<|AC h3<|AN))
   ·refine Ig (fun hl4 => ?_)
    refine If (fun y hy => ?_)
    replace hy:=Ax x0 (bu x0) 0 rfl hl4 y hy
    cases y with
    | ret w0_2 =>
     have h4:=hy
     exact Ib (DP Tryz.f57 [rT,.b false,.b false,.lp .ret (eU w0_2)] (AD (Ij (bh (x0.size:Int) (1:Int) (8:Int)) h0)<|AC h1<|AC h2<|AC h1<|AC h3<|AL h4<|AN))
    | x0 =>
     have h4:=hy
     exact Ib (DP Tryz.f57 [rT,.b false,.b false,.lp (.exit 0) (mq)] (AD (Ij (bh (x0.size:Int) (1:Int) (8:Int)) h0)<|AC h1<|AC h2<|AC h1<|AC h3<|AL h4<|AN))
 ·exact Ib (DP Tryz.f57 [rF] (AD (Ij (bh (x0.size:Int) (1:Int) (8:Int)) h0)<|AN))
inductive sA where
 | ret (v2:Bool)
 | x0 
def bM (v0:ByteArray) (v3:Int):US:=stL 42 [(0,.one (tS v0)),(3,.one (tI v3))]
def dq (zv2:Bool):US:=stL 42 [(2,.one (tB zv2))]
def mh (v0:ByteArray):US:=stL 42 [(0,.one (tS v0))]
abbrev dx:US→Exit→US→Prop:=Round E 44 (au Tryz.f44 0)
def Ae (v0:ByteArray) (v3:Int):sA→Prop
 | .ret zv2=>Loops E 44 (au Tryz.f44 0) (bM v0 v3) .ret (dq zv2)
 | .x0=>Loops E 44 (au Tryz.f44 0) (bM v0 v3) (.exit 0) (mh v0)
noncomputable def dy  : List Int→Nat→Option sA
 | [],i=>some (.x0)
 | hd::rest,i=>cond (decide (hd≥(97:Int)))
  (cond (decide (hd≤(122:Int)))
   (dy rest (i+1))
   (cond ((i:Int)==(0:Int))
    (some (.ret false))
    (cond (decide (hd<(48:Int)))
     (some (.ret false))
     (cond (decide (hd>(57:Int)))
      (some (.ret false))
      (dy rest (i+1))))))
  (cond ((i:Int)==(0:Int))
   (some (.ret false))
   (cond (decide (hd<(48:Int)))
    (some (.ret false))
    (cond (decide (hd>(57:Int)))
     (some (.ret false))
     (dy rest (i+1)))))
theorem Ad (v0:ByteArray) (rest:List Int):∀ (i:Nat) ,(bu v0).drop i=rest→v0.size≤9223372036854775807→Ans (dy rest i) (Ae v0 (i:Int)):=by
 induction rest with
 | nil =>
  intro i hE hl
  have hb:=m0 hE
  unfold dy
  exact Ib (Id (show dx (bM v0 (i:Int)) (.exit 0) (mh v0) from RP [.b false] (AC hb<|AN)) (by intro h;cases h))
 | cons hd rest ih =>
  intro i hE hl
  have hb:=l7 hE
  have hw:=l8 hE hl
  have hE2:=aG hE
  have hp:=oF hE
  obtain rfl:=oE hE
  unfold dy
  apply Ie<;>intro h2
  ·apply Ie<;>intro h3
   ·exact (ih (i+1) hE2 hl).mono fun y hy=>by have r:dx (bM v0 (i:Int)) .normal (bM v0 (inc (i:Int))):=RP [.b true,.b true,.b true] (AC hb<|AC hp<|AC h2<|AC hp<|AC h3<|AN);rw [hw] at r;cases y<;>exact Ic r hy
   ·apply Ie<;>intro h4
    ·exact Ib (Id (show dx (bM v0 (i:Int)) .ret (dq false) from RP [.b true,.b true,.b false,.b true] (AC hb<|AC hp<|AC h2<|AC hp<|AC h3<|AC h4<|AN)) (by intro h;cases h))
    ·apply Ie<;>intro h5
     ·exact Ib (Id (show dx (bM v0 (i:Int)) .ret (dq false) from RP [.b true,.b true,.b false,.b false,.b true] (AC hb<|AC hp<|AC h2<|AC hp<|AC h3<|AC h4<|AC hp<|AC h5<|AN)) (by intro h;cases h))
     ·apply Ie<;>intro h6
      ·exact Ib (Id (show dx (bM v0 (i:Int)) .ret (dq false) from RP [.b true,.b true,.b false,.b false,.b false,.b true] (AC hb<|AC hp<|AC h2<|AC hp<|AC h3<|AC h4<|AC hp<|AC h5<|AC hp<|AC h6<|AN)) (by intro h;cases h))
      ·exact (ih (i+1) hE2 hl).mono fun y hy=>by have r:dx (bM v0 (i:Int)) .normal (bM v0 (inc (i:Int))):=RP [.b true,.b true,.b false,.b false,.b false,.b false] (AC hb<|AC hp<|AC h2<|AC hp<|AC h3<|AC h4<|AC hp<|AC h5<|AC hp<|AC h6<|AN);rw [hw] at r;cases y<;>exact Ic r hy
  ·apply Ie<;>intro h3
   ·exact Ib (Id (show dx (bM v0 (i:Int)) .ret (dq false) from RP [.b true,.b false,.b true] (AC hb<|AC hp<|AC h2<|AC h3<|AN)) (by intro h;cases h))
   ·apply Ie<;>intro h4
    ·exact Ib (Id (show dx (bM v0 (i:Int)) .ret (dq false) from RP [.b true,.b false,.b false,.b true] (AC hb<|AC hp<|AC h2<|AC h3<|AC hp<|AC h4<|AN)) (by intro h;cases h))
    ·apply Ie<;>intro h5
     ·exact Ib (Id (show dx (bM v0 (i:Int)) .ret (dq false) from RP [.b true,.b false,.b false,.b false,.b true] (AC hb<|AC hp<|AC h2<|AC h3<|AC hp<|AC h4<|AC hp<|AC h5<|AN)) (by intro h;cases h))
     ·exact (ih (i+1) hE2 hl).mono fun y hy=>by have r:dx (bM v0 (i:Int)) .normal (bM v0 (inc (i:Int))):=RP [.b true,.b false,.b false,.b false,.b false] (AC hb<|AC hp<|AC h2<|AC h3<|AC hp<|AC h4<|AC hp<|AC h5<|AN);rw [hw] at r;cases y<;>exact Ic r hy
noncomputable def mC (x0:ByteArray):Option (Bool) :=
  if x0.size≤9223372036854775807 then (dy (bu x0) 0).bind fun y=>match y with
   | .ret w0_2=>(some (w0_2))
   | .x0=>(some (aB (x0.size:Int) (1:Int) (8:Int))) else none
theorem BX (x0:ByteArray):Ans (mC x0) (fun r=>Does E 44 [.one (tS x0)] [(false,[tB r])]):=by
 unfold mC
 refine Ig (fun hl1 => ?_)
 refine If (fun y hy => ?_)
 replace hy:=Ad x0 (bu x0) 0 rfl hl1 y hy
 cases y with
 | ret w0_2 =>
  have h0:=hy
  exact Ib (DP Tryz.f44 [.lp .ret (dq w0_2)] (AL h0<|AN))
 | x0 =>
  have h0:=hy
  exact Ib (DP Tryz.f44 [.lp (.exit 0) (mh x0),.ret [(false,[tB (aB (x0.size:Int) (1:Int) (8:Int))])]] (AL h0<|AD (cC (x0.size:Int) (1:Int) (8:Int))<|AN))
def oh (h:Int):Bool:=decide (97≤h∧h≤122)
def lfI (h:Int):Bool:=decide (97≤h∧h≤122∨48≤h∧h≤57)
def EM:List Int→Bool
 | []=>true
 | h::l=>oh h&&l.all lfI
def c7 (s:ByteArray):Bool:=aB (s.size:Int) 1 8&&EM (bu s)
theorem FE {α:Type} (h:Int) (A B:α):cond (decide (h<97)) (cond (decide (h<48)) A (cond (decide (h>57)) A B)) (cond (decide (h>122)) (cond (decide (h<48)) A (cond (decide (h>57)) A B)) B)=cond (lfI h) B A:=by
 unfold lfI
 simp only [Bool.cond_decide]
 repeat' split
 all_goals first | rfl | (exfalso;omega)
theorem E8 {α:Type} (h:Int) (A B:α):cond (decide (h≥97)) (cond (decide (h≤122)) B (cond (decide (h<48)) A (cond (decide (h>57)) A B))) (cond (decide (h<48)) A (cond (decide (h>57)) A B))=cond (lfI h) B A:=by
 unfold lfI
 simp only [Bool.cond_decide]
 repeat' split
 all_goals first | rfl | (exfalso;omega)
theorem E7 {α:Type} (h:Int) (A B:α):cond (decide (h≥97)) (cond (decide (h≤122)) B A) A=cond (oh h) B A:=by
 unfold oh
 simp only [Bool.cond_decide]
 repeat' split
 all_goals first | rfl | (exfalso;omega)
theorem FD {h:Int} (q:oh h=true):lfI h=true:=by
 unfold oh at q
 unfold lfI
 simp only [decide_eq_true_eq] at q ⊢
 exact .inl q
theorem A8:∀ (l:List Int) (i:Nat),d3 l i=some (cond (l.all lfI) .x0 (.ret false))
 | [],i=>rfl
 | h::l,i=>by
  unfold d3
  rw [A8 l (i+1),List.all_cons,FE]
  cases lfI h<;>rfl
theorem A7:∀ (l:List Int) (i:Nat),dy l (i+1)=some (cond (l.all lfI) .x0 (.ret false))
 | [],i=>rfl
 | h::l,i=>by
  unfold dy
  have e:(((i+1:Nat):Int)==0)=false:=by rw [beq_eq_false_iff_ne];omega
  rw [A7 l (i+1),List.all_cons,e]
  simp only [cond_false]
  rw [E8]
  cases lfI h<;>rfl
theorem FI (s:ByteArray) (hs:s.size≤2000000):mJ s=some (c7 s):=by
 unfold mJ c7
 cases q:aB (s.size:Int) 1 8 with
 | false=>rfl
 | true =>
  have hr:1≤(s.size:Int)∧(s.size:Int)≤8:=by unfold aB at q;simpa using q
  rw [cond_true,if_pos (by omega),if_pos (by omega),Bool.true_and,A8]
  have h0:=oq s 0 (by omega)
  cases e:bu s with
  | nil=>rw [e] at h0;cases h0
  | cons h l =>
   rw [e] at h0
   have hb:h=eG s (0:Int):=Option.some.inj h0
   rw [← hb]
   show _=some (oh h&&l.all lfI)
   rw [List.all_cons]
   have k:∀ (X:Option Bool),cond (decide (h<97)) (some false) (cond (decide (h>122)) (some false) X)=cond (oh h) X (some false):=fun X=>by
    unfold oh
    simp only [Bool.cond_decide]
    repeat' split
    all_goals first | rfl | (exfalso;omega)
   rw [k]
   cases q2:oh h with
   | false=>rfl
   | true =>
    rw [FD q2]
    cases l.all lfI<;>rfl
theorem FH (s:ByteArray) (hs:s.size≤2000000):mC s=some (c7 s):=by
 unfold mC c7
 rw [if_pos (by omega)]
 cases e:bu s with
 | nil =>
  show some (aB (s.size:Int) 1 8)=some (aB (s.size:Int) 1 8&&true)
  rw [Bool.and_true]
 | cons h l =>
  unfold dy EM
  have e0:(((0:Nat):Int)==0)=true:=rfl
  rw [A7 l 0,e0]
  simp only [cond_true]
  rw [E7]
  cases oh h with
  | false=>rw [Bool.false_and,Bool.and_false];rfl
  | true =>
   rw [cond_true,Bool.true_and,Option.bind_some]
   cases l.all lfI with
   | false=>rw [Bool.and_false];rfl
   | true=>rw [Bool.and_true];rfl
theorem ca (x0:ByteArray) (h:x0.size≤2000000):Does E 57 [.one (tS x0)] [(false,[tB (c7 x0)])]:=by
 exact Ck x0 _ (FI x0 h)
theorem ct (x0:ByteArray) (h:x0.size≤2000000):Does E 44 [.one (tS x0)] [(false,[tB (c7 x0)])]:=by
 exact BX x0 _ (FH x0 h)
noncomputable def iG (x0:ByteArray):Option (Int) :=
  cond (x0.toList==(⟨#[111,110,101]⟩:ByteArray).toList)
   (some ((1:Int)))
   (cond (x0.toList==(⟨#[116,119,111]⟩:ByteArray).toList)
    (some ((2:Int)))
    (cond (x0.toList==(⟨#[119,105,100,101]⟩:ByteArray).toList)
     (some ((4:Int)))
     (some ((0:Int)))))
theorem y6 (x0:ByteArray):Ans (iG x0) (fun r=>Does E 80 [.one (tS x0)] [(false,[tI r])]):=by
 unfold iG
 apply Ie<;>intro h0
 ·exact Ib (DP Tryz.f80 [.b true] (AC h0<|AN))
 ·apply Ie<;>intro h1
  ·exact Ib (DP Tryz.f80 [.b false,.b true] (AC h0<|AC h1<|AN))
  ·apply Ie<;>intro h2
   ·exact Ib (DP Tryz.f80 [.b false,.b false,.b true] (AC h0<|AC h1<|AC h2<|AN))
   ·exact Ib (DP Tryz.f80 [.b false,.b false,.b false] (AC h0<|AC h1<|AC h2<|AN))
noncomputable def qY (x0:ByteArray):Option (Int) :=
  cond (x0.toList==(⟨#[111,110,101]⟩:ByteArray).toList)
   (some ((1:Int)))
   (cond (x0.toList==(⟨#[116,119,111]⟩:ByteArray).toList)
    (some ((2:Int)))
    (cond (x0.toList==(⟨#[119,105,100,101]⟩:ByteArray).toList)
     (some ((4:Int)))
     (some ((0:Int)))))
theorem yg (x0:ByteArray):Ans (qY x0) (fun r=>Does E 70 [.one (tS x0)] [(false,[tI r])]):=by
 unfold qY
 apply Ie<;>intro h0
 ·exact Ib (DP Tryz.f70 [.b true] (AC h0<|AN))
 ·apply Ie<;>intro h1
  ·exact Ib (DP Tryz.f70 [.b false,.b true] (AC h0<|AC h1<|AN))
  ·apply Ie<;>intro h2
   ·exact Ib (DP Tryz.f70 [.b false,.b false,.b true] (AC h0<|AC h1<|AC h2<|AN))
   ·exact Ib (DP Tryz.f70 [.b false,.b false,.b false] (AC h0<|AC h1<|AC h2<|AN))
noncomputable def bw (s:ByteArray):Int:=(iG s).getD 0
theorem yP (s:ByteArray):iG s=some (bw s):=by
 refine Tot.getD ?_ _
 unfold iG
 repeat' (first | exact Tot.some _ | apply Tot.cond)
theorem kp (x0:ByteArray):Does E 80 [.one (tS x0)] [(false,[tI (bw x0)])]:=by
 exact y6 x0 _ (yP x0)
theorem il (x0:ByteArray):Does E 70 [.one (tS x0)] [(false,[tI (bw x0)])]:=by
 exact yg x0 _ (yP x0)
inductive uB where
 | ret (v4:Int)
 | x0 
def je (q0:Kd) (v0:List GTask) (v1:ByteArray) (v5:Int):US:=stL 20 [(0,.one (.s .far () 5 (v0.map (GTask.t q0)))),(1,.one (tS v1)),(5,.one (tI v5))]
def mu (q0:Kd) (zv4:Int):US:=stL 20 [(4,.one (tI zv4))]
def nm (q0:Kd)  : US:=stL 20 []
abbrev pM:US→Exit→US→Prop:=Round E 63 (au Tryz.f63 0)
def Co {q0:Kd} (v0:List GTask) (v1:ByteArray) (v5:Int):uB→Prop
 | .ret zv4=>Loops E 63 (au Tryz.f63 0) (je q0 v0 v1 v5) .ret (mu q0 zv4)
 | .x0=>Loops E 63 (au Tryz.f63 0) (je q0 v0 v1 v5) (.exit 0) (nm q0)
noncomputable def gE (v1:ByteArray):List GTask→Nat→Option uB
 | [],i=>some (.x0)
 | hd::rest,i=>cond (hd.f0.toList==v1.toList)
  (some (.ret (i:Int)))
  (gE v1 rest (i+1))
theorem Cn {q0:Kd} (v0:List GTask) (v1:ByteArray) (rest:List GTask):∀ (i:Nat) ,(v0).drop i=rest→v0.length≤9223372036854775807→Ans (gE v1 rest i) (Co (q0:=q0) v0 v1 (i:Int)):=by
 induction rest with
 | nil =>
  intro i hE hl
  have hb:=bq hE
  unfold gE
  exact Ib (Id (show pM (je q0 v0 v1 (i:Int)) (.exit 0) (nm q0) from RP [.val (.int .i64 (v0.length:Int)),.b false] (ALn v0 (GTask.t q0)<|AC hb<|AN)) (by intro h;cases h))
 | cons hd rest ih =>
  intro i hE hl
  have hb:=a8 hE
  have hw:=ba hE hl
  have hE2:=aG hE
  have hg:=bd hE
  unfold gE
  apply Ie<;>intro h2
  ·exact Ib (Id (show pM (je q0 v0 v1 (i:Int)) .ret (mu q0 (i:Int)) from RP [.val (.int .i64 (v0.length:Int)),.b true,.row ((GTask.t q0) hd),.b true] (ALn v0 (GTask.t q0)<|AC hb<|AR (GTask.t q0) hg<|AC h2<|AN)) (by intro h;cases h))
  ·exact (ih (i+1) hE2 hl).mono fun y hy=>by have r:pM (je q0 v0 v1 (i:Int)) .normal (je q0 v0 v1 (inc (i:Int))):=RP [.val (.int .i64 (v0.length:Int)),.b true,.row ((GTask.t q0) hd),.b false] (ALn v0 (GTask.t q0)<|AC hb<|AR (GTask.t q0) hg<|AC h2<|AN);rw [hw] at r;cases y<;>exact Ic r hy
noncomputable def rI (x0:List GTask) (x1:ByteArray):Option (Int) :=
  if x0.length≤9223372036854775807 then (gE x1 x0 0).bind fun y=>match y with
   | .ret w0_4=>(some (w0_4))
   | .x0=>(some ((-1:Int))) else none
theorem DA {q0:Kd} (x0:List GTask) (x1:ByteArray):Ans (rI x0 x1) (fun r=>Does E 63 [.one (.s .far () 5 (x0.map (GTask.t q0))),.one (tS x1)] [(false,[tI r])]):=by
 unfold rI
 refine Ig (fun hl1 => ?_)
 refine If (fun y hy => ?_)
 replace hy:=Cn (q0:=q0) x0 x1 x0 0 rfl hl1 y hy
 cases y with
 | ret w0_4 =>
  have h0:=hy
  exact Ib (DP Tryz.f63 [.lp .ret (mu q0 w0_4)] (AL h0<|AN))
 | x0 =>
  have h0:=hy
  exact Ib (DP Tryz.f63 [.lp (.exit 0) (nm q0)] (AL h0<|AN))
noncomputable def qZ (x0:GTask) (y0:ByteArray):Option (Bool) :=
  some (x0.f0.toList==y0.toList)
theorem yh (x0:GTask) (y0:ByteArray):Ans (qZ x0 y0) (fun r=>Does E 71 [.agg (GTask.t .far x0),.im .far () [tS y0] 0] [(false,[tB r])]):=by
 unfold qZ
 exact Ib (DP Tryz.f71 [] AN)
def gZ (x:GTask) (n:ByteArray):Bool:=x.f0.toList==n.toList
def kr (n:ByteArray):List GTask→Nat→Int
 | [],_ => -1
 | t::r,i=>cond (gZ t n) (i:Int) (kr n r (i+1))
def ap (ts:List GTask) (n:ByteArray):Int:=kr n ts 0
theorem qw (n:ByteArray):∀ (l:List GTask) (i:Nat),(kr n l i = -1∧∀ t∈l,gZ t n=false)∨∃ (k:Nat) (t:GTask),kr n l i=((i+k:Nat):Int)∧l[k]?=some t∧gZ t n=true
 | [],i => .inl ⟨rfl,fun t ht=>by cases ht⟩
 | t::l,i=>by
  unfold kr
  cases q:gZ t n with
  | true=>exact .inr ⟨0,t,rfl,rfl,q⟩
  | false =>
   rw [cond_false]
   rcases qw n l (i+1) with ⟨h,h'⟩ | ⟨k,u,h1,h2,h3⟩
   ·exact .inl ⟨h,fun u hu=>by rcases List.mem_cons.1 hu with rfl | hu;exact q;exact h' u hu⟩
   ·exact .inr ⟨k+1,u,by rw [h1];omega,h2,h3⟩
theorem AJ {ts:List GTask} {n:ByteArray} (h:0≤ap ts n):∃ t∈ts,tx t.f0=tx n:=by
 unfold ap at h
 rcases qw n ts 0 with ⟨h',_⟩ | ⟨k,t,h1,h2,h3⟩
 ·rw [h'] at h;omega
 ·unfold gZ at h3
  rw [mR,decide_eq_true_eq] at h3
  exact ⟨t,List.mem_of_getElem? h2,h3⟩
theorem Fp (n:ByteArray):∀ (l:List GTask) (i:Nat),(gE n l i).bind (fun y=>match y with
   | .ret w0_4=>(some (w0_4))
   | .x0=>(some ((-1:Int))))=some (kr n l i)
 | [],i=>rfl
 | t::l,i=>by
  unfold gE kr
  have e:(t.f0.toList==n.toList)=gZ t n:=rfl
  rw [e]
  cases gZ t n with
  | true=>rfl
  | false=>exact Fp n l (i+1)
theorem qt (x0:GTask) (y0:ByteArray):Does E 71 [.agg (GTask.t .far x0),.im .far () [tS y0] 0] [(false,[tB (gZ x0 y0)])]:=by
 exact yh x0 y0 _ rfl
theorem d8 {q0:Kd} (x0:List GTask) (x1:ByteArray) (h:x0.length≤1050000):Does E 63 [.one (.s .far () 5 (x0.map (GTask.t q0))),.one (tS x1)] [(false,[tI (ap x0 x1)])]:=by
 exact DA x0 x1 _ (by unfold rI;rw [if_pos (by omega)];exact Fp x1 x0 0)
inductive ez where
 | ret (v4:Int)
 | x0 
def a7 (q0:Kd) (v0:List GTask) (v1_0_0:ByteArray) (v7 v8:Int):US:=stL 19 [(0,.one (.s .far () 5 (v0.map (GTask.t q0)))),(1,.fni 71 [((),[tS v1_0_0])]),(7,.one (tI v7)),(8,.one (tI v8))]
def cq (q0:Kd) (zv4:Int):US:=stL 19 [(4,.one (tI zv4))]
def cw (q0:Kd)  : US:=stL 19 []
abbrev cK:US→Exit→US→Prop:=Round E 49 (au Tryz.f49 0)
def jh {q0:Kd} (v0:List GTask) (v1_0_0:ByteArray) (v7 v8:Int):ez→Prop
 | .ret zv4=>Loops E 49 (au Tryz.f49 0) (a7 q0 v0 v1_0_0 v7 v8) .ret (cq q0 zv4)
 | .x0=>Loops E 49 (au Tryz.f49 0) (a7 q0 v0 v1_0_0 v7 v8) (.exit 0) (cw q0)
noncomputable def aS (v1_0_0:ByteArray):List GTask→Nat→Option ez
 | [],i=>some (.x0)
 | hd::rest,i=>cond (gZ hd v1_0_0)
  (some (.ret (i:Int)))
  (aS v1_0_0 rest (i+1))
theorem jg {q0:Kd} (v0:List GTask) (v1_0_0:ByteArray) (rest:List GTask):∀ (i:Nat) ,(v0).drop i=rest→v0.length≤9223372036854775807→Ans (aS v1_0_0 rest i) (jh (q0:=q0) v0 v1_0_0 (v0.length:Int) (i:Int)):=by
 induction rest with
 | nil =>
  intro i hE hl
  have hb:=bq hE
  unfold aS
  exact Ib (Id (show cK (a7 q0 v0 v1_0_0 (v0.length:Int) (i:Int)) (.exit 0) (cw q0) from RP [.b false] (AC hb<|AN)) (by intro h;cases h))
 | cons hd rest ih =>
  intro i hE hl
  have hb:=a8 hE
  have hw:=ba hE hl
  have hE2:=aG hE
  have hg:=bd hE
  unfold aS
  apply Ie<;>intro h2
  ·exact Ib (Id (show cK (a7 q0 v0 v1_0_0 (v0.length:Int) (i:Int)) .ret (cq q0 (i:Int)) from RP [.b true,.row ((GTask.t q0) hd),rT] (AC hb<|AR (GTask.t q0) hg<|AD (Ij (qt hd v1_0_0) h2)<|AN)) (by intro h;cases h))
  ·exact (ih (i+1) hE2 hl).mono fun y hy=>by have r:cK (a7 q0 v0 v1_0_0 (v0.length:Int) (i:Int)) .normal (a7 q0 v0 v1_0_0 (v0.length:Int) (inc (i:Int))):=RP [.b true,.row ((GTask.t q0) hd),rF] (AC hb<|AR (GTask.t q0) hg<|AD (Ij (qt hd v1_0_0) h2)<|AN);rw [hw] at r;cases y<;>exact Ic r hy
noncomputable def cQ (x0:List GTask) (c1_0:ByteArray):Option (Int) :=
  if x0.length≤9223372036854775807 then (aS c1_0 x0 0).bind fun y=>match y with
   | .ret w0_4=>(some (w0_4))
   | .x0=>(some ((-1:Int))) else none
theorem jq {q0:Kd} (x0:List GTask) (c1_0:ByteArray):Ans (cQ x0 c1_0) (fun r=>Does E 49 [.one (.s .far () 5 (x0.map (GTask.t q0))),.fni 71 [((),[tS c1_0])]] [(false,[tI r])]):=by
 unfold cQ
 refine Ig (fun hl1 => ?_)
 refine If (fun y hy => ?_)
 replace hy:=jg (q0:=q0) x0 c1_0 x0 0 rfl hl1 y hy
 cases y with
 | ret w0_4 =>
  have h0:=hy
  exact Ib (DP Tryz.f49 [.val (.int .i64 (x0.length:Int)),.lp .ret (cq q0 w0_4)] (ALn x0 (GTask.t q0)<|AL h0<|AN))
 | x0 =>
  have h0:=hy
  exact Ib (DP Tryz.f49 [.val (.int .i64 (x0.length:Int)),.lp (.exit 0) (cw q0)] (ALn x0 (GTask.t q0)<|AL h0<|AN))
theorem Fo (n:ByteArray):∀ (l:List GTask) (i:Nat),(aS n l i).bind (fun y=>match y with
   | .ret w0_4=>(some (w0_4))
   | .x0=>(some ((-1:Int))))=some (kr n l i)
 | [],i=>rfl
 | t::l,i=>by
  unfold aS kr
  cases gZ t n with
  | true=>rfl
  | false=>exact Fo n l (i+1)
theorem jj {q0:Kd} (x0:List GTask) (c1_0:ByteArray) (h:x0.length≤1050000):Does E 49 [.one (.s .far () 5 (x0.map (GTask.t q0))),.fni 71 [((),[tS c1_0])]] [(false,[tI (ap x0 c1_0)])]:=by
 exact jq x0 c1_0 _ (by unfold cQ;rw [if_pos (by omega)];exact Fo c1_0 x0 0)
noncomputable def pu (x0:GDag) (x1:ByteArray):Option (Int) :=
  if x0.f5.length≤1050000 then some (ap x0.f5 x1) else none
theorem BY {q0:Kd} (x0:GDag) (x1:ByteArray):Ans (pu x0 x1) (fun r=>Does E 48 [.agg (GDag.t .far q0 x0),.one (tS x1)] [(false,[tI r])]):=by
 unfold pu
 refine Ig (fun h0 => ?_)
 exact Ib (DP Tryz.f48 [.ret [(false,[tI (ap x0.f5 x1)])]] (AV (ψ:=fun k=>E.C k 49 [.one (.s .far () 5 (x0.f5.map (GTask.t q0))),.fni 71 [((),[tS x1])]]=some [(false,[tI (ap x0.f5 x1)])]) (jj x0.f5 x1 h0)<|AN))
def bU (d:GDag) (n:ByteArray):Int:=ap d.f5 n
theorem eE {q0:Kd} (x0:GDag) (x1:ByteArray) (h:x0.f5.length≤1050000):Does E 48 [.agg (GDag.t .far q0 x0),.one (tS x1)] [(false,[tI (bU x0 x1)])]:=by
 exact BY x0 x1 _ (by unfold pu;rw [if_pos h];rfl)
end Go.Proofs.YtjfbofdmjihglaaGreatDoor.Am
namespace Go.Proofs.YtjfbofdmjihglaaGreatDoor.Am
open Go Go.Proofs Classical
set_option maxRecDepth 100000
set_option linter.unusedVariables false
set_option linter.unusedSimpArgs false
inductive nI where
 | ret (v6:Bool)
 | x0 
def ew (q0:Kd) (v0_0 v0_1:ByteArray) (v0_2 v0_3:Int) (v0_4:Bool) (v0_5:List GTask) (v2:List Int) (v10:List ByteArray) (v11 v12:Int):US:=stL 25 [(0,.im .far () [tS v0_0,tS v0_1,tI v0_2,tI v0_3,tB v0_4,.s .far () 5 (v0_5.map (GTask.t q0))] 0),(2,.one (.s .far () 1 (v2.map etI))),(10,.one (.s .far () 1 (v10.map etS))),(11,.one (tI v11)),(12,.one (tI v12))]
def ix (q0:Kd) (zv6:Bool):US:=stL 25 [(6,.one (tB zv6))]
def jk (q0:Kd)  : US:=stL 25 []
abbrev kD:US→Exit→US→Prop:=Round E 52 (au Tryz.f52 0)
def ug {q0:Kd} (v0_0 v0_1:ByteArray) (v0_2 v0_3:Int) (v0_4:Bool) (v0_5:List GTask) (v2:List Int) (v10:List ByteArray) (v11 v12:Int):nI→Prop
 | .ret zv6=>Loops E 52 (au Tryz.f52 0) (ew q0 v0_0 v0_1 v0_2 v0_3 v0_4 v0_5 v2 v10 v11 v12) .ret (ix q0 zv6)
 | .x0=>Loops E 52 (au Tryz.f52 0) (ew q0 v0_0 v0_1 v0_2 v0_3 v0_4 v0_5 v2 v10 v11 v12) (.exit 0) (jk q0)
noncomputable def dF (v0_0 v0_1:ByteArray) (v0_2 v0_3:Int) (v0_5:List GTask) (v2:List Int):List ByteArray→Nat→Bool→Option nI
 | [],i,v0_4=>some (.x0)
 | hd::rest,i,v0_4=>if (GDag.mk v0_0 v0_1 v0_2 v0_3 v0_4 v0_5).f5.length≤1050000 then if v2.length≤1050000 then cond (b7 v2 (bU (GDag.mk v0_0 v0_1 v0_2 v0_3 v0_4 v0_5) hd))
  (dF v0_0 v0_1 v0_2 v0_3 v0_5 v2 rest (i+1) v0_4)
  (some (.ret false)) else none else none
theorem uf {q0:Kd} (v0_0 v0_1:ByteArray) (v0_2 v0_3:Int) (v0_5:List GTask) (v2:List Int) (v10:List ByteArray) (rest:List ByteArray):∀ (i:Nat) (v0_4:Bool),(v10).drop i=rest→v10.length≤9223372036854775807→Ans (dF v0_0 v0_1 v0_2 v0_3 v0_5 v2 rest i v0_4) (ug (q0:=q0) v0_0 v0_1 v0_2 v0_3 v0_4 v0_5 v2 v10 (v10.length:Int) (i:Int)):=by
 induction rest with
 | nil =>
  intro i v0_4 hE hl
  have hb:=bq hE
  unfold dF
  exact Ib (Id (show kD (ew q0 v0_0 v0_1 v0_2 v0_3 v0_4 v0_5 v2 v10 (v10.length:Int) (i:Int)) (.exit 0) (jk q0) from RP [.b false] (AC hb<|AN)) (by intro h;cases h))
 | cons hd rest ih =>
  intro i v0_4 hE hl
  have hb:=a8 hE
  have hw:=ba hE hl
  have hE2:=aG hE
  have hg:=bd hE
  unfold dF
  refine Ig (fun h2 => ?_)
  refine Ig (fun h3 => ?_)
  apply Ie<;>intro h4
  ·exact (ih (i+1) v0_4 hE2 hl).mono fun y hy=>by have r:kD (ew q0 v0_0 v0_1 v0_2 v0_3 v0_4 v0_5 v2 v10 (v10.length:Int) (i:Int)) .normal (ew q0 v0_0 v0_1 v0_2 v0_3 v0_4 v0_5 v2 v10 (v10.length:Int) (inc (i:Int))):=RP [.b true,.row (etS hd),.ret [(false,[tI (bU (GDag.mk v0_0 v0_1 v0_2 v0_3 v0_4 v0_5) hd)])],rT] (AC hb<|AR etS hg<|AV (ψ:=fun k=>E.C k 48 [.agg (GDag.t .far q0 (GDag.mk v0_0 v0_1 v0_2 v0_3 v0_4 v0_5)),.one (tS hd)]=some [(false,[tI (bU (GDag.mk v0_0 v0_1 v0_2 v0_3 v0_4 v0_5) hd)])]) (eE (GDag.mk v0_0 v0_1 v0_2 v0_3 v0_4 v0_5) hd h2)<|AD (Ij (eo v2 (bU (GDag.mk v0_0 v0_1 v0_2 v0_3 v0_4 v0_5) hd) h3) h4)<|AN);rw [hw] at r;cases y<;>exact Ic r hy
  ·exact Ib (Id (show kD (ew q0 v0_0 v0_1 v0_2 v0_3 v0_4 v0_5 v2 v10 (v10.length:Int) (i:Int)) .ret (ix q0 false) from RP [.b true,.row (etS hd),.ret [(false,[tI (bU (GDag.mk v0_0 v0_1 v0_2 v0_3 v0_4 v0_5) hd)])],rF] (AC hb<|AR etS hg<|AV (ψ:=fun k=>E.C k 48 [.agg (GDag.t .far q0 (GDag.mk v0_0 v0_1 v0_2 v0_3 v0_4 v0_5)),.one (tS hd)]=some [(false,[tI (bU (GDag.mk v0_0 v0_1 v0_2 v0_3 v0_4 v0_5) hd)])]) (eE (GDag.mk v0_0 v0_1 v0_2 v0_3 v0_4 v0_5) hd h2)<|AD (Ij (eo v2 (bU (GDag.mk v0_0 v0_1 v0_2 v0_3 v0_4 v0_5) hd) h3) h4)<|AN)) (by intro h;cases h))
noncomputable def iT (x0:GDag) (x1:GTask) (x2:List Int):Option (Bool) :=
  if x1.f4.length≤9223372036854775807 then (dF x0.f0 x0.f1 x0.f2 x0.f3 x0.f5 x2 x1.f4 0 x0.f4).bind fun y=>match y with
   | .ret w0_6=>(some (w0_6))
   | .x0=>(some (true)) else none
theorem u6 {q0:Kd} (x0:GDag) (x1:GTask) (x2:List Int):Ans (iT x0 x1 x2) (fun r=>Does E 52 [.im .far () (GDag.t .far q0 x0) 0,.agg (GTask.t .far x1),.one (.s .far () 1 (x2.map etI))] [(false,[tB r])]):=by
 unfold iT
 refine Ig (fun hl1 => ?_)
 refine If (fun y hy => ?_)
 replace hy:=uf (q0:=q0) x0.f0 x0.f1 x0.f2 x0.f3 x0.f5 x2 x1.f4 x1.f4 0 x0.f4 rfl hl1 y hy
 cases y with
 | ret w0_6 =>
  have h0:=hy
  exact Ib (DP Tryz.f52 [.val (.int .i64 (x1.f4.length:Int)),.lp .ret (ix q0 w0_6)] (ALn x1.f4 etS<|AL h0<|AN))
 | x0 =>
  have h0:=hy
  exact Ib (DP Tryz.f52 [.val (.int .i64 (x1.f4.length:Int)),.lp (.exit 0) (jk q0)] (ALn x1.f4 etS<|AL h0<|AN))
def nG (ts:List GTask) (o:List Int) (t:GTask):Bool:=t.f4.all fun n=>b7 o (ap ts n)
def rg (d:GDag) (t:GTask) (o:List Int):Bool:=nG d.f5 o t
theorem C0 (a b:ByteArray) (c e:Int) (ts:List GTask) (o:List Int) (ht:ts.length≤1050000) (ho:o.length≤1050000):∀ (l:List ByteArray) (i:Nat) (z:Bool),dF a b c e ts o l i z=some (cond (l.all fun n=>b7 o (ap ts n)) .x0 (.ret false))
 | [],i,z=>rfl
 | n::l,i,z=>by
  unfold dF
  rw [if_pos (show (GDag.mk a b c e z ts).f5.length≤1050000 from ht),if_pos ho,List.all_cons,C0 a b c e ts o ht ho l (i+1) z]
  show cond (b7 o (ap ts n)) _ _=_
  cases b7 o (ap ts n)<;>rfl
theorem Fz (d:GDag) (t:GTask) (o:List Int) (h1:d.f5.length≤1050000) (h2:t.f4.length≤1050000) (h3:o.length≤1050000):iT d t o=some (rg d t o):=by
 unfold iT
 rw [if_pos (by omega),C0 _ _ _ _ _ _ h1 h3]
 show _=some (t.f4.all fun n=>b7 o (ap d.f5 n))
 cases t.f4.all fun n=>b7 o (ap d.f5 n)<;>rfl
theorem uN {q0:Kd} (x0:GDag) (x1:GTask) (x2:List Int) (h1:x0.f5.length≤1050000) (h2:x1.f4.length≤1050000) (h3:x2.length≤1050000):Does E 52 [.im .far () (GDag.t .far q0 x0) 0,.agg (GTask.t .far x1),.one (.s .far () 1 (x2.map etI))] [(false,[tB (rg x0 x1 x2)])]:=by
 exact u6 x0 x1 x2 _ (Fz x0 x1 x2 h1 h2 h3)
noncomputable def mi (x0:GTask) (y0:List Int) (y1:GDag):Option (Bool) :=
  if y1.f5.length≤1050000 then if y0.length≤1050000 then cond (b7 y0 (bU y1 x0.f0))
   (some (false))
   (if x0.f4.length≤1050000 then some (rg y1 x0 y0) else none) else none else none
theorem wD {qy1:Kd} (x0:GTask) (y0:List Int) (y1:GDag):Ans (mi x0 y0 y1) (fun r=>Does E 50 [.agg (GTask.t .far x0),.im .far () [.s .far () 1 (y0.map etI)] 0,.im .far () [tS y1.f0,tS y1.f1,tI y1.f2,tI y1.f3,tB y1.f4,.s .far () 5 (y1.f5.map (GTask.t qy1))] 0] [(false,[tB r])]):=by
 unfold mi
 refine Ig (fun h0 => ?_)
 refine Ig (fun h1 => ?_)
 apply Ie<;>intro h2
 ·exact Ib (DP Tryz.f50 [.ret [(false,[tI (bU y1 x0.f0)])],rT] (AV (ψ:=fun k=>E.C k 48 [.agg (GDag.t .far qy1 y1),.one (tS x0.f0)]=some [(false,[tI (bU y1 x0.f0)])]) (eE y1 x0.f0 h0)<|AD (Ij (eo y0 (bU y1 x0.f0) h1) h2)<|AN))
 ·refine Ig (fun h3 => ?_)
  exact Ib (DP Tryz.f50 [.ret [(false,[tI (bU y1 x0.f0)])],rF,.ret [(false,[tB (rg y1 x0 y0)])]] (AV (ψ:=fun k=>E.C k 48 [.agg (GDag.t .far qy1 y1),.one (tS x0.f0)]=some [(false,[tI (bU y1 x0.f0)])]) (eE y1 x0.f0 h0)<|AD (Ij (eo y0 (bU y1 x0.f0) h1) h2)<|AV (ψ:=fun k=>E.C k 52 [.im .far () [tS y1.f0,tS y1.f1,tI y1.f2,tI y1.f3,tB y1.f4,.s .far () 5 (y1.f5.map (GTask.t qy1))] 0,.agg (GTask.t .far x0),.one (.s .far () 1 (y0.map etI))]=some [(false,[tB (rg y1 x0 y0)])]) (uN y1 x0 y0 h0 h3 h1)<|AN))
def th (t:GTask) (o:List Int) (d:GDag):Bool := !b7 o (ap d.f5 t.f0)&&nG d.f5 o t
theorem pS {qy1:Kd} (x0:GTask) (y0:List Int) (y1:GDag) (h1:y1.f5.length≤1050000) (h2:x0.f4.length≤1050000) (h3:y0.length≤1050000):Does E 50 [.agg (GTask.t .far x0),.im .far () [.s .far () 1 (y0.map etI)] 0,.im .far () [tS y1.f0,tS y1.f1,tI y1.f2,tI y1.f3,tB y1.f4,.s .far () 5 (y1.f5.map (GTask.t qy1))] 0] [(false,[tB (th x0 y0 y1)])]:=by
 exact wD x0 y0 y1 _ (by
  unfold mi th
  simp only [h1,h2,h3,if_true]
  show cond (b7 y0 (ap y1.f5 x0.f0)) _ _=_
  cases b7 y0 (ap y1.f5 x0.f0)<;>rfl)
inductive em where
 | ret (v4:Int)
 | x0 
def aZ (q0:Kd) (qc1_1:Kd) (v0:List GTask) (v1_0_0:List Int) (v1_1_0 v1_1_1:ByteArray) (v1_1_2 v1_1_3:Int) (v1_1_4:Bool) (v1_1_5:List GTask) (v7 v8:Int):US:=stL 19 [(0,.one (.s .far () 5 (v0.map (GTask.t q0)))),(1,.fni 50 [((),[.s .far () 1 (v1_0_0.map etI)]),((),[tS v1_1_0,tS v1_1_1,tI v1_1_2,tI v1_1_3,tB v1_1_4,.s .far () 5 (v1_1_5.map (GTask.t qc1_1))])]),(7,.one (tI v7)),(8,.one (tI v8))]
def ck (q0:Kd) (qc1_1:Kd) (zv4:Int):US:=stL 19 [(4,.one (tI zv4))]
def cr (q0:Kd) (qc1_1:Kd)  : US:=stL 19 []
abbrev cA:US→Exit→US→Prop:=Round E 49 (au Tryz.f49 0)
def iK {q0:Kd} {qc1_1:Kd} (v0:List GTask) (v1_0_0:List Int) (v1_1_0 v1_1_1:ByteArray) (v1_1_2 v1_1_3:Int) (v1_1_4:Bool) (v1_1_5:List GTask) (v7 v8:Int):em→Prop
 | .ret zv4=>Loops E 49 (au Tryz.f49 0) (aZ q0 qc1_1 v0 v1_0_0 v1_1_0 v1_1_1 v1_1_2 v1_1_3 v1_1_4 v1_1_5 v7 v8) .ret (ck q0 qc1_1 zv4)
 | .x0=>Loops E 49 (au Tryz.f49 0) (aZ q0 qc1_1 v0 v1_0_0 v1_1_0 v1_1_1 v1_1_2 v1_1_3 v1_1_4 v1_1_5 v7 v8) (.exit 0) (cr q0 qc1_1)
noncomputable def aQ (v1_0_0:List Int) (v1_1_0 v1_1_1:ByteArray) (v1_1_2 v1_1_3:Int) (v1_1_5:List GTask):List GTask→Nat→Bool→Option em
 | [],i,v1_1_4=>some (.x0)
 | hd::rest,i,v1_1_4=>if (GDag.mk v1_1_0 v1_1_1 v1_1_2 v1_1_3 v1_1_4 v1_1_5).f5.length≤1050000 then if hd.f4.length≤1050000 then if v1_0_0.length≤1050000 then cond (th hd v1_0_0 (GDag.mk v1_1_0 v1_1_1 v1_1_2 v1_1_3 v1_1_4 v1_1_5))
  (some (.ret (i:Int)))
  (aQ v1_0_0 v1_1_0 v1_1_1 v1_1_2 v1_1_3 v1_1_5 rest (i+1) v1_1_4) else none else none else none
theorem iJ {q0:Kd} {qc1_1:Kd} (v0:List GTask) (v1_0_0:List Int) (v1_1_0 v1_1_1:ByteArray) (v1_1_2 v1_1_3:Int) (v1_1_5:List GTask) (rest:List GTask):∀ (i:Nat) (v1_1_4:Bool),(v0).drop i=rest→v0.length≤9223372036854775807→Ans (aQ v1_0_0 v1_1_0 v1_1_1 v1_1_2 v1_1_3 v1_1_5 rest i v1_1_4) (iK (q0:=q0) (qc1_1:=qc1_1) v0 v1_0_0 v1_1_0 v1_1_1 v1_1_2 v1_1_3 v1_1_4 v1_1_5 (v0.length:Int) (i:Int)):=by
 induction rest with
 | nil =>
  intro i v1_1_4 hE hl
  have hb:=bq hE
  unfold aQ
  exact Ib (Id (show cA (aZ q0 qc1_1 v0 v1_0_0 v1_1_0 v1_1_1 v1_1_2 v1_1_3 v1_1_4 v1_1_5 (v0.length:Int) (i:Int)) (.exit 0) (cr q0 qc1_1) from RP [.b false] (AC hb<|AN)) (by intro h;cases h))
 | cons hd rest ih =>
  intro i v1_1_4 hE hl
  have hb:=a8 hE
  have hw:=ba hE hl
  have hE2:=aG hE
  have hg:=bd hE
  unfold aQ
  refine Ig (fun h2 => ?_)
  refine Ig (fun h3 => ?_)
  refine Ig (fun h4 => ?_)
  apply Ie<;>intro h5
  ·exact Ib (Id (show cA (aZ q0 qc1_1 v0 v1_0_0 v1_1_0 v1_1_1 v1_1_2 v1_1_3 v1_1_4 v1_1_5 (v0.length:Int) (i:Int)) .ret (ck q0 qc1_1 (i:Int)) from RP [.b true,.row ((GTask.t q0) hd),rT] (AC hb<|AR (GTask.t q0) hg<|AV (ψ:=fun k=>E.C k 50 [.agg (GTask.t .far hd),.im .far () [.s .far () 1 (v1_0_0.map etI)] 0,.im .far () [tS v1_1_0,tS v1_1_1,tI v1_1_2,tI v1_1_3,tB v1_1_4,.s .far () 5 (v1_1_5.map (GTask.t qc1_1))] 0]=some [(false,[tB true])]) (Ih (pS hd v1_0_0 (GDag.mk v1_1_0 v1_1_1 v1_1_2 v1_1_3 v1_1_4 v1_1_5) h2 h3 h4) (by rw [h5]))<|AN)) (by intro h;cases h))
  ·exact (ih (i+1) v1_1_4 hE2 hl).mono fun y hy=>by have r:cA (aZ q0 qc1_1 v0 v1_0_0 v1_1_0 v1_1_1 v1_1_2 v1_1_3 v1_1_4 v1_1_5 (v0.length:Int) (i:Int)) .normal (aZ q0 qc1_1 v0 v1_0_0 v1_1_0 v1_1_1 v1_1_2 v1_1_3 v1_1_4 v1_1_5 (v0.length:Int) (inc (i:Int))):=RP [.b true,.row ((GTask.t q0) hd),rF] (AC hb<|AR (GTask.t q0) hg<|AV (ψ:=fun k=>E.C k 50 [.agg (GTask.t .far hd),.im .far () [.s .far () 1 (v1_0_0.map etI)] 0,.im .far () [tS v1_1_0,tS v1_1_1,tI v1_1_2,tI v1_1_3,tB v1_1_4,.s .far () 5 (v1_1_5.map (GTask.t qc1_1))] 0]=some [(false,[tB false])]) (Ih (pS hd v1_0_0 (GDag.mk v1_1_0 v1_1_1 v1_1_2 v1_1_3 v1_1_4 v1_1_5) h2 h3 h4) (by rw [h5]))<|AN);rw [hw] at r;cases y<;>exact Ic r hy
noncomputable def bR (x0:List GTask) (c1_0:List Int) (c1_1:GDag):Option (Int) :=
  if x0.length≤9223372036854775807 then (aQ c1_0 c1_1.f0 c1_1.f1 c1_1.f2 c1_1.f3 c1_1.f5 x0 0 c1_1.f4).bind fun y=>match y with
   | .ret w0_4=>(some (w0_4))
   | .x0=>(some ((-1:Int))) else none
theorem ji {q0:Kd} {qc1_1:Kd} (x0:List GTask) (c1_0:List Int) (c1_1:GDag):Ans (bR x0 c1_0 c1_1) (fun r=>Does E 49 [.one (.s .far () 5 (x0.map (GTask.t q0))),.fni 50 [((),[.s .far () 1 (c1_0.map etI)]),((),[tS c1_1.f0,tS c1_1.f1,tI c1_1.f2,tI c1_1.f3,tB c1_1.f4,.s .far () 5 (c1_1.f5.map (GTask.t qc1_1))])]] [(false,[tI r])]):=by
 unfold bR
 refine Ig (fun hl1 => ?_)
 refine If (fun y hy => ?_)
 replace hy:=iJ (q0:=q0) (qc1_1:=qc1_1) x0 c1_0 c1_1.f0 c1_1.f1 c1_1.f2 c1_1.f3 c1_1.f5 x0 0 c1_1.f4 rfl hl1 y hy
 cases y with
 | ret w0_4 =>
  have h0:=hy
  exact Ib (DP Tryz.f49 [.val (.int .i64 (x0.length:Int)),.lp .ret (ck q0 qc1_1 w0_4)] (ALn x0 (GTask.t q0)<|AL h0<|AN))
 | x0 =>
  have h0:=hy
  exact Ib (DP Tryz.f49 [.val (.int .i64 (x0.length:Int)),.lp (.exit 0) (cr q0 qc1_1)] (ALn x0 (GTask.t q0)<|AL h0<|AN))
def dV (o:List Int) (ts:List GTask):List GTask→Nat→Option Nat
 | [],_=>none
 | t::r,i=>if (!b7 o (ap ts t.f0)&&nG ts o t)=true then some i else dV o ts r (i+1)
def bP (l:List GTask) (o:List Int) (d:GDag):Int:=match dV o d.f5 l 0 with | some i=>(i:Int) | none => -1
theorem Dh (o:List Int) (a b:ByteArray) (c e:Int) (ts:List GTask) (ht:ts.length≤1050000) (ho:o.length≤1050000):∀ (l:List GTask) (i:Nat) (z:Bool),an.sm l→aQ o a b c e ts l i z=some (match dV o ts l i with | some k => .ret (k:Int) | none => .x0)
 | [],i,z,_=>rfl
 | t::l,i,z,hl=>by
  unfold aQ dV
  have h4:t.f4.length≤1050000:=(hl.2 t (by simp)).2.2.1
  rw [if_pos (show (GDag.mk a b c e z ts).f5.length≤1050000 from ht),if_pos h4,if_pos ho,Dh o a b c e ts ht ho l (i+1) z ⟨by have:=hl.1;simp at this;omega,fun y hy=>hl.2 y (by simp [hy])⟩]
  show cond (!b7 o (ap ts t.f0)&&nG ts o t) _ _=_
  cases (!b7 o (ap ts t.f0)&&nG ts o t)<;>rfl
theorem FJ (l:List GTask) (o:List Int) (d:GDag) (h1:an.sm l) (h2:d.f5.length≤1050000) (h3:o.length≤1050000):bR l o d=some (bP l o d):=by
 unfold bR bP
 rw [if_pos (by have:=h1.1;omega),Dh o d.f0 d.f1 d.f2 d.f3 d.f5 h2 h3 l 0 d.f4 h1]
 cases dV o d.f5 l 0<;>rfl
theorem ep {q0:Kd} {qc1_1:Kd} (x0:List GTask) (c1_0:List Int) (c1_1:GDag) (h1:an.sm x0) (h2:c1_1.f5.length≤1050000) (h3:c1_0.length≤1050000):Does E 49 [.one (.s .far () 5 (x0.map (GTask.t q0))),.fni 50 [((),[.s .far () 1 (c1_0.map etI)]),((),[tS c1_1.f0,tS c1_1.f1,tI c1_1.f2,tI c1_1.f3,tB c1_1.f4,.s .far () 5 (c1_1.f5.map (GTask.t qc1_1))])]] [(false,[tI (bP x0 c1_0 c1_1)])]:=by
 exact ji x0 c1_0 c1_1 _ (FJ x0 c1_0 c1_1 h1 h2 h3)
inductive rb where
 | ret (v2:List Int)
def kF (q0:Kd) (v1_0 v1_1:ByteArray) (v1_2 v1_3:Int) (v1_4:Bool) (v1_5:List GTask) (v3_0:List Int):US:=stL 16 [(1,.box () [tS v1_0,tS v1_1,tI v1_2,tI v1_3,tB v1_4,.s .far () 5 (v1_5.map (GTask.t q0))]),(3,.box () [.s .own () 1 (v3_0.map etI)])]
def ic (q0:Kd) (zv2:List Int):US:=stL 16 [(2,.one (.s .own () 1 (zv2.map etI)))]
abbrev ra:US→Exit→US→Prop:=Round E 29 (au Tryz.f29 0)
def yj {q0:Kd} (v1_0 v1_1:ByteArray) (v1_2 v1_3:Int) (v1_4:Bool) (v1_5:List GTask) (v3_0:List Int):rb→Prop
 | .ret zv2=>Loops E 29 (au Tryz.f29 0) (kF q0 v1_0 v1_1 v1_2 v1_3 v1_4 v1_5 v3_0) .ret (ic q0 zv2)
noncomputable def fU (v1_0 v1_1:ByteArray) (v1_2 v1_3:Int) (v1_5:List GTask):Nat→Bool→(List Int)→Option rb
 | 0,_,_=>none
 | n+1,v1_4,v3_0=>if an.sm v1_5 then if (GDag.mk v1_0 v1_1 v1_2 v1_3 v1_4 v1_5).f5.length≤1050000 then if v3_0.length≤1050000 then cond (decide ((bP v1_5 v3_0 (GDag.mk v1_0 v1_1 v1_2 v1_3 v1_4 v1_5))<(0:Int)))
  (some (.ret v3_0))
  (if (v3_0.length+([bP v1_5 v3_0 (GDag.mk v1_0 v1_1 v1_2 v1_3 v1_4 v1_5)]).length)*8≤140737488355328∧v3_0.length+([bP v1_5 v3_0 (GDag.mk v1_0 v1_1 v1_2 v1_3 v1_4 v1_5)]).length≤4611686018427387904 then fU v1_0 v1_1 v1_2 v1_3 v1_5 n v1_4 (v3_0++([bP v1_5 v3_0 (GDag.mk v1_0 v1_1 v1_2 v1_3 v1_4 v1_5)])) else none) else none else none else none
theorem yi {q0:Kd} (v1_0 v1_1:ByteArray) (v1_2 v1_3:Int) (v1_5:List GTask) (n:Nat):∀ (v1_4:Bool) (v3_0:List Int),Ans (fU v1_0 v1_1 v1_2 v1_3 v1_5 n v1_4 v3_0) (yj (q0:=q0) v1_0 v1_1 v1_2 v1_3 v1_4 v1_5 v3_0):=by
 induction n with
 | zero=>intros;exact Ans.none
 | succ n ih =>
  intro v1_4 v3_0
  unfold fU
  refine Ig (fun h0 => ?_)
  refine Ig (fun h1 => ?_)
  refine Ig (fun h2 => ?_)
  apply Ie<;>intro h3
  ·exact Ib (Id (show ra (kF q0 v1_0 v1_1 v1_2 v1_3 v1_4 v1_5 v3_0) .ret (ic q0 v3_0) from Round.to (RP (D':=stL 16 [(2,.one (.s .own () 1 (((v3_0.map etI).drop 0).take (v3_0.map etI).length)))]) [.ret [(false,[tI (bP v1_5 v3_0 (GDag.mk v1_0 v1_1 v1_2 v1_3 v1_4 v1_5))])],.b true] (AV (ψ:=fun k=>E.C k 49 [.one (.s .far () 5 (v1_5.map (GTask.t q0))),.fni 50 [((),[.s .far () 1 (v3_0.map etI)]),((),[tS v1_0,tS v1_1,tI v1_2,tI v1_3,tB v1_4,.s .far () 5 (v1_5.map (GTask.t q0))])]]=some [(false,[tI (bP v1_5 v3_0 (GDag.mk v1_0 v1_1 v1_2 v1_3 v1_4 v1_5))])]) (ep v1_5 v3_0 (GDag.mk v1_0 v1_1 v1_2 v1_3 v1_4 v1_5) h0 h1 h2)<|AC h3<|AN)) (by simp only [ic,List.take_length,List.drop_zero])) (by intro h;cases h))
  ·refine Ig (fun h4 => ?_)
   have r:ra (kF q0 v1_0 v1_1 v1_2 v1_3 v1_4 v1_5 v3_0) .normal (kF q0 v1_0 v1_1 v1_2 v1_3 v1_4 v1_5 (v3_0++([bP v1_5 v3_0 (GDag.mk v1_0 v1_1 v1_2 v1_3 v1_4 v1_5)]))):=RP [.ret [(false,[tI (bP v1_5 v3_0 (GDag.mk v1_0 v1_1 v1_2 v1_3 v1_4 v1_5))])],.b false,.rows ((v3_0++([bP v1_5 v3_0 (GDag.mk v1_0 v1_1 v1_2 v1_3 v1_4 v1_5)])).map etI)] (AV (ψ:=fun k=>E.C k 49 [.one (.s .far () 5 (v1_5.map (GTask.t q0))),.fni 50 [((),[.s .far () 1 (v3_0.map etI)]),((),[tS v1_0,tS v1_1,tI v1_2,tI v1_3,tB v1_4,.s .far () 5 (v1_5.map (GTask.t q0))])]]=some [(false,[tI (bP v1_5 v3_0 (GDag.mk v1_0 v1_1 v1_2 v1_3 v1_4 v1_5))])]) (ep v1_5 v3_0 (GDag.mk v1_0 v1_1 v1_2 v1_3 v1_4 v1_5) h0 h1 h2)<|AC h3<|AC (p:=(((([bP v1_5 v3_0 (GDag.mk v1_0 v1_1 v1_2 v1_3 v1_4 v1_5)]).map etI).drop 0).take (([bP v1_5 v3_0 (GDag.mk v1_0 v1_1 v1_2 v1_3 v1_4 v1_5)]).map etI).length).all (fun r=>r.all T.flat)=true∧((((v3_0.map etI).drop 0).take (v3_0.map etI).length).length+(((([bP v1_5 v3_0 (GDag.mk v1_0 v1_1 v1_2 v1_3 v1_4 v1_5)]).map etI).drop 0).take (([bP v1_5 v3_0 (GDag.mk v1_0 v1_1 v1_2 v1_3 v1_4 v1_5)]).map etI).length).length)*8≤140737488355328∧(((v3_0.map etI).drop 0).take (v3_0.map etI).length).length+(((([bP v1_5 v3_0 (GDag.mk v1_0 v1_1 v1_2 v1_3 v1_4 v1_5)]).map etI).drop 0).take (([bP v1_5 v3_0 (GDag.mk v1_0 v1_1 v1_2 v1_3 v1_4 v1_5)]).map etI).length).length≤4611686018427387904) (by simp only [List.take_length,List.drop_zero];exact EF (fun x=>rfl) h4)<|AC (p:=(((v3_0.map etI).drop 0).take (v3_0.map etI).length)++(((([bP v1_5 v3_0 (GDag.mk v1_0 v1_1 v1_2 v1_3 v1_4 v1_5)]).map etI).drop 0).take (([bP v1_5 v3_0 (GDag.mk v1_0 v1_1 v1_2 v1_3 v1_4 v1_5)]).map etI).length)=(v3_0++([bP v1_5 v3_0 (GDag.mk v1_0 v1_1 v1_2 v1_3 v1_4 v1_5)])).map etI) (by simp only [List.take_length,List.drop_zero];exact Cw)<|AN);exact (ih v1_4 (v3_0++([bP v1_5 v3_0 (GDag.mk v1_0 v1_1 v1_2 v1_3 v1_4 v1_5)]))).mono fun y hy=>by cases y<;>exact Ic r hy
noncomputable def lO (x0:GDag):Option ((List Int)) :=
  (fU x0.f0 x0.f1 x0.f2 x0.f3 x0.f5 9223372036854775808 x0.f4 ([])).bind fun y=>match y with
   | .ret w0_2=>(some (w0_2))
theorem Ah {q0:Kd} (x0:GDag):Ans (lO x0) (fun r=>Does E 29 [.agg (GDag.t .far q0 x0)] [(false,[.s .own () 1 (r.map etI)])]):=by
 unfold lO
 refine If (fun y hy => ?_)
 replace hy:=yi (q0:=q0) x0.f0 x0.f1 x0.f2 x0.f3 x0.f5 9223372036854775808 x0.f4 ([]) y hy
 cases y with
 | ret w0_2 =>
  have h0:=hy
  exact Ib (DP Tryz.f29 [.lp .ret (ic q0 w0_2)] (AL h0<|AN))
def d7 (ts:List GTask):Prop:=ts.length≤4∧∀ (i:Nat) (t:GTask),ts[i]?=some t→ap ts t.f0=(i:Int)
def jA (ts:List GTask):Nat→List Int→List Int
 | 0,o=>o
 | k+1,o=>match dV o ts ts 0 with | none=>o | some i=>jA ts k (o++[(i:Int)])
def jz (ts:List GTask):List Int:=jA ts ts.length []
def ls (d:GDag):List Int:=jz d.f5
theorem yn {o:List Int} {x:Int}:b7 o x=true↔x∈o:=by
 unfold b7
 rw [List.any_eq_true]
 constructor
 ·rintro ⟨y,h,e⟩;rw [beq_iff_eq] at e;subst e;exact h
 ·intro h;exact ⟨x,h,by simp⟩
theorem qa {o:List Int} {ts:List GTask}:∀ {l:List GTask} {i k:Nat},dV o ts l i=some k→∃ t j,k=i+j∧l[j]?=some t∧b7 o (ap ts t.f0)=false∧nG ts o t=true
 | [],i,k,h=>by cases h
 | t::l,i,k,h=>by
  unfold dV at h
  split at h
  ·rename_i q
   cases h
   simp only [Bool.and_eq_true,Bool.not_eq_true'] at q
   exact ⟨t,0,rfl,rfl,q.1,q.2⟩
  ·obtain ⟨u,j,h1,h2,h3⟩:=qa h
   exact ⟨u,j+1,by omega,h2,h3⟩
def rU (n:Nat) (o:List Int):Nat:=((List.range n).filter fun i:Nat => !b7 o (i:Int)).length
theorem vQ {α:Type} {p q:α→Bool}:∀ {l:List α},(∀ y,q y=true→p y=true)→(l.filter q).length≤(l.filter p).length
 | [],_=>by simp
 | z::l,h=>by
  have ih:=vQ (l:=l) h
  rw [List.filter_cons,List.filter_cons]
  cases a:q z with
  | true=>rw [h z a];simpa using ih
  | false=>cases p z<;>simp<;>omega
theorem vR {α:Type} {p q:α→Bool} {x:α}:∀ {l:List α},(∀ y,q y=true→p y=true)→x∈l→p x=true→q x=false→(l.filter q).length<(l.filter p).length
 | y::l,h,hx,h1,h2=>by
  have le:=vQ (l:=l) h
  rw [List.filter_cons,List.filter_cons]
  rcases List.mem_cons.1 hx with rfl | hx
  ·rw [h1,h2];simp;omega
  ·have:=vR (l:=l) h hx h1 h2
   cases a:q y with
   | true=>rw [h y a];simpa using this
   | false=>cases p y<;>simp<;>omega
theorem De {n i:Nat} {o:List Int} (hi:i<n) (h:b7 o (i:Int)=false):rU n (o++[(i:Int)])<rU n o:=by
 unfold rU
 refine vR (p:=fun i:Nat => !b7 o (i:Int)) (q:=fun j:Nat => !b7 (o++[(i:Int)]) (j:Int)) (x:=i) (fun y hy => ?_) (List.mem_range.2 hi) (by rw [h];rfl) ?_
 ·rw [Bool.not_eq_true'] at hy ⊢
  rw [← Bool.not_eq_true,yn] at hy ⊢
  exact fun e=>hy (by simp [e])
 ·have:b7 (o++[(i:Int)]) (i:Int)=true:=yn.2 (by simp)
  rw [this];rfl
theorem Et (n:Nat):rU n []=n:=by
 unfold rU
 have:(List.range n).filter (fun i:Nat => !b7 [] (i:Int))=List.range n:=List.filter_eq_self.2 fun a _=>rfl
 rw [this,List.length_range]
theorem Ba (a b:ByteArray) (c e:Int) (ts:List GTask) (hs:an.sm ts) (hg:d7 ts):∀ (k n:Nat) (o:List Int) (z:Bool),rU ts.length o≤k→k<n→o.length+k≤1000→fU a b c e ts n z o=some (.ret (jA ts k o))
 | k,0,o,z,_,hn,_=>by omega
 | k,n+1,o,z,hk,hn,hl=>by
  unfold fU
  rw [if_pos hs,if_pos (show (GDag.mk a b c e z ts).f5.length≤1050000 from hs.1),if_pos (by omega)]
  have hx:bP ts o (GDag.mk a b c e z ts)=match dV o ts ts 0 with | some i=>(i:Int) | none => -1:=rfl
  rw [hx]
  cases q:dV o ts ts 0 with
  | none =>
   have:jA ts k o=o:=by
    cases k with
    | zero=>rfl
    | succ k=>unfold jA;rw [q]
   rw [this];rfl
  | some i =>
   obtain ⟨t,j,h1,h2,h3,h4⟩:=qa q
   have hij:i=j:=by omega
   subst hij
   rw [hg.2 i t h2] at h3
   have hi:i<ts.length:=by
    rcases Nat.lt_or_ge i ts.length with g | g
    ·exact g
    ·rw [List.getElem?_eq_none g] at h2;cases h2
   have less:=De hi h3
   obtain ⟨k,rfl⟩:∃ m,k=m+1:=⟨k-1,by omega⟩
   have ih:=Ba a b c e ts hs hg k n (o++[(i:Int)]) z (by omega) (by omega) (by simp;omega)
   simp only
   rw [decide_eq_false (by omega),cond_false,if_pos (by simp;omega),ih]
   conv=>rhs;unfold jA
   rw [q]
theorem Dn (d:GDag) (h:an.sm d) (hg:d7 d.f5):lO d=some (ls d):=by
 have hs:an.sm d.f5:=h.2.2
 unfold lO
 have:=Ba d.f0 d.f1 d.f2 d.f3 d.f5 hs hg d.f5.length 9223372036854775808 [] d.f4 (by rw [Et];exact Nat.le_refl _) (by have:=hg.1;omega) (by have:=hg.1;simp;omega)
 refine (congrArg (Option.bind · _) this).trans rfl
theorem zE {q0:Kd} (x0:GDag) (h:an.sm x0) (hg:d7 x0.f5):Does E 29 [.agg (GDag.t .far q0 x0)] [(false,[.s .own () 1 ((ls x0).map etI)])]:=by
 exact Ah x0 _ (Dn x0 h hg)
inductive qk where
 | x4 (v6:Bool)
def eC (q0:Kd) (v0:List GTask) (v3:List Int) (v4 v5:Int) (v6:Bool) (v7:Int):US:=stL 57 [(0,.one (.s .far () 5 (v0.map (GTask.t q0)))),(3,.one (.s .own () 1 (v3.map etI))),(4,.one (tI v4)),(5,.one (tI v5)),(6,.one (tB v6)),(7,.one (tI v7))]
def fD (q0:Kd) (v0:List GTask) (v3:List Int) (v4 v5:Int) (zv6:Bool):US:=stL 57 [(0,.one (.s .far () 5 (v0.map (GTask.t q0)))),(3,.one (.s .own () 1 (v3.map etI))),(4,.one (tI v4)),(5,.one (tI v5)),(6,.one (tB zv6))]
abbrev jP:US→Exit→US→Prop:=Round E 37 (au Tryz.f37 2)
def wZ {q0:Kd} (v0:List GTask) (v3:List Int) (v4 v5:Int) (v6:Bool) (v7:Int):qk→Prop
 | .x4 zv6=>Loops E 37 (au Tryz.f37 2) (eC q0 v0 v3 v4 v5 v6 v7) (.exit 4) (fD q0 v0 v3 v4 v5 zv6)
noncomputable def dR (v0:List GTask) (v3:List Int) (v5:Int):Nat→Bool→Int→Option qk
 | 0,_,_=>none
 | n+1,v6,v7=>match v6 with
  | true=>(aL v0 v5).bind fun g0=>cond (decide (v7<(g0.f4.length:Int)))
   ((aL g0.f4 v7).bind fun g1=>if v0.length≤1050000 then if v3.length≤1050000 then dR v0 v3 v5 n (b7 v3 (ap v0 g1)) (inc v7) else none else none)
   (some (.x4 v6))
  | false=>(aL v0 v5).bind fun g0=>cond (decide (v7<(g0.f4.length:Int)))
   (dR v0 v3 v5 n false (inc v7))
   (some (.x4 v6))
theorem wW {q0:Kd} (v0:List GTask) (v3:List Int) (v4 v5:Int) (n:Nat):∀ (v6:Bool) (v7:Int),Ans (dR v0 v3 v5 n v6 v7) (wZ (q0:=q0) v0 v3 v4 v5 v6 v7):=by
 induction n with
 | zero=>intros;exact Ans.none
 | succ n ih =>
  intro v6 v7
  unfold dR
  cases v6 with
  | true =>
   refine If (fun g0 h0 => ?_)
   apply Ie<;>intro h1
   ·refine If (fun g1 h2 => ?_)
    refine Ig (fun h3 => ?_)
    refine Ig (fun h4 => ?_)
    have r:jP (eC q0 v0 v3 v4 v5 true v7) .normal (eC q0 v0 v3 v4 v5 (b7 v3 (ap v0 g1)) (inc v7)):=RP [.row ((GTask.t q0) g0),.val (.int .i64 (g0.f4.length:Int)),.b true,.row ((GTask.t q0) g0),.row (etS g1),.ret [(false,[tI (ap v0 g1)])],.ret [(false,[tB (b7 v3 (ap v0 g1))])]] (AR (GTask.t q0) h0<|ALn g0.f4 etS<|AC h1<|AR (GTask.t q0) h0<|AR etS h2<|AV (ψ:=fun k=>E.C k 63 [.one (.s .far () 5 (v0.map (GTask.t q0))),.one (tS g1)]=some [(false,[tI (ap v0 g1)])]) (d8 v0 g1 h3)<|AV (ψ:=fun k=>E.C k 62 [.one (.s .far () 1 (((v3.map etI).drop 0).take (v3.map etI).length)),.one (tI (ap v0 g1))]=some [(false,[tB (b7 v3 (ap v0 g1))])]) (Ii (by simp only [List.take_length,List.drop_zero]) (nC v3 (ap v0 g1) h4))<|AN);exact (ih (b7 v3 (ap v0 g1)) (inc v7)).mono fun y hy=>by cases y<;>exact Ic r hy
   ·exact Ib (Id (show jP (eC q0 v0 v3 v4 v5 true v7) (.exit 4) (fD q0 v0 v3 v4 v5 true) from RP [.row ((GTask.t q0) g0),.val (.int .i64 (g0.f4.length:Int)),.b false] (AR (GTask.t q0) h0<|ALn g0.f4 etS<|AC h1<|AN)) (by intro h;cases h))
  | false =>
   refine If (fun g0 h0 => ?_)
   apply Ie<;>intro h1
   ·have r:jP (eC q0 v0 v3 v4 v5 false v7) .normal (eC q0 v0 v3 v4 v5 false (inc v7)):=RP [.row ((GTask.t q0) g0),.val (.int .i64 (g0.f4.length:Int)),.b true] (AR (GTask.t q0) h0<|ALn g0.f4 etS<|AC h1<|AN);exact (ih false (inc v7)).mono fun y hy=>by cases y<;>exact Ic r hy
   ·exact Ib (Id (show jP (eC q0 v0 v3 v4 v5 false v7) (.exit 4) (fD q0 v0 v3 v4 v5 false) from RP [.row ((GTask.t q0) g0),.val (.int .i64 (g0.f4.length:Int)),.b false] (AR (GTask.t q0) h0<|ALn g0.f4 etS<|AC h1<|AN)) (by intro h;cases h))
inductive qj where
 | x2 (v3:List Int)
def dQ (q0:Kd) (v0:List GTask) (v3:List Int) (v4 v5:Int):US:=stL 57 [(0,.one (.s .far () 5 (v0.map (GTask.t q0)))),(3,.one (.s .own () 1 (v3.map etI))),(4,.one (tI v4)),(5,.one (tI v5))]
def k8 (q0:Kd) (v0:List GTask) (v4:Int) (zv3:List Int):US:=stL 57 [(0,.one (.s .far () 5 (v0.map (GTask.t q0)))),(3,.one (.s .own () 1 (zv3.map etI))),(4,.one (tI v4))]
abbrev jO:US→Exit→US→Prop:=Round E 37 (au Tryz.f37 1)
def wY {q0:Kd} (v0:List GTask) (v3:List Int) (v4 v5:Int):qj→Prop
 | .x2 zv3=>Loops E 37 (au Tryz.f37 1) (dQ q0 v0 v3 v4 v5) (.exit 2) (k8 q0 v0 v4 zv3)
noncomputable def cH (v0:List GTask):Nat→(List Int)→Int→Option qj
 | 0,_,_=>none
 | n+1,v3,v5=>cond (decide (v5<(v0.length:Int)))
  (if v3.length≤1050000 then cond (b7 v3 v5)
   (cH v0 n v3 (inc v5))
   ((dR v0 v3 v5 9223372036854775808 true (0:Int)).bind fun y=>match y with
    | .x4 w0_6=>(match w0_6 with
     | true=>if (v3.length+([v5]).length)*8≤140737488355328∧v3.length+([v5]).length≤4611686018427387904 then cH v0 n (v3++([v5])) (inc (v0.length:Int)) else none
     | false=>cH v0 n v3 (inc v5))) else none)
  (some (.x2 v3))
theorem wV {q0:Kd} (v0:List GTask) (v4:Int) (n:Nat):∀ (v3:List Int) (v5:Int),Ans (cH v0 n v3 v5) (wY (q0:=q0) v0 v3 v4 v5):=by
 induction n with
 | zero=>intros;exact Ans.none
 | succ n ih =>
  intro v3 v5
  unfold cH
  apply Ie<;>intro h0
  ·refine Ig (fun h1 => ?_)
   apply Ie<;>intro h2
   ·have r:jO (dQ q0 v0 v3 v4 v5) .normal (dQ q0 v0 v3 v4 (inc v5)):=RP [.val (.int .i64 (v0.length:Int)),.b true,rT] (ALn v0 (GTask.t q0)<|AC h0<|AV (ψ:=fun k=>E.C k 62 [.one (.s .far () 1 (((v3.map etI).drop 0).take (v3.map etI).length)),.one (tI v5)]=some [(false,[tB true])]) (Ii (by simp only [List.take_length,List.drop_zero]) (Ih (nC v3 v5 h1) (by rw [h2])))<|AN);exact (ih v3 (inc v5)).mono fun y hy=>by cases y<;>exact Ic r hy
   ·refine If (fun y hy => ?_)
    replace hy:=wW (q0:=q0) v0 v3 v4 v5 9223372036854775808 true (0:Int) y hy
    cases y with
    | x4 w0_6 =>
     have h3:=hy
     cases w0_6 with
     | true =>
      refine Ig (fun h4 => ?_)
      have r:jO (dQ q0 v0 v3 v4 v5) .normal (dQ q0 v0 (v3++([v5])) v4 (inc (v0.length:Int))):=RP [.val (.int .i64 (v0.length:Int)),.b true,rF,.lp (.exit 4) (fD q0 v0 v3 v4 v5 true),.rows ((v3++([v5])).map etI),.val (.int .i64 (v0.length:Int))] (ALn v0 (GTask.t q0)<|AC h0<|AV (ψ:=fun k=>E.C k 62 [.one (.s .far () 1 (((v3.map etI).drop 0).take (v3.map etI).length)),.one (tI v5)]=some [(false,[tB false])]) (Ii (by simp only [List.take_length,List.drop_zero]) (Ih (nC v3 v5 h1) (by rw [h2])))<|AL h3<|AAp etI (fun _=>rfl) h4<|ALn v0 (GTask.t q0)<|AN);exact (ih (v3++([v5])) (inc (v0.length:Int))).mono fun y hy=>by cases y<;>exact Ic r hy
     | false =>
      have r:jO (dQ q0 v0 v3 v4 v5) .normal (dQ q0 v0 v3 v4 (inc v5)):=RP [.val (.int .i64 (v0.length:Int)),.b true,rF,.lp (.exit 4) (fD q0 v0 v3 v4 v5 false)] (ALn v0 (GTask.t q0)<|AC h0<|AV (ψ:=fun k=>E.C k 62 [.one (.s .far () 1 (((v3.map etI).drop 0).take (v3.map etI).length)),.one (tI v5)]=some [(false,[tB false])]) (Ii (by simp only [List.take_length,List.drop_zero]) (Ih (nC v3 v5 h1) (by rw [h2])))<|AL h3<|AN);exact (ih v3 (inc v5)).mono fun y hy=>by cases y<;>exact Ic r hy
  ·exact Ib (Id (show jO (dQ q0 v0 v3 v4 v5) (.exit 2) (k8 q0 v0 v4 v3) from RP [.val (.int .i64 (v0.length:Int)),.b false] (ALn v0 (GTask.t q0)<|AC h0<|AN)) (by intro h;cases h))
inductive qi where
 | x0 (v3:List Int)
def jQ (q0:Kd) (v0:List GTask) (v3:List Int) (v4:Int):US:=stL 57 [(0,.one (.s .far () 5 (v0.map (GTask.t q0)))),(3,.one (.s .own () 1 (v3.map etI))),(4,.one (tI v4))]
def k7 (q0:Kd) (zv3:List Int):US:=stL 57 [(3,.one (.s .own () 1 (zv3.map etI)))]
abbrev qh:US→Exit→US→Prop:=Round E 37 (au Tryz.f37 0)
def wX {q0:Kd} (v0:List GTask) (v3:List Int) (v4:Int):qi→Prop
 | .x0 zv3=>Loops E 37 (au Tryz.f37 0) (jQ q0 v0 v3 v4) (.exit 0) (k7 q0 zv3)
noncomputable def eD (v0:List GTask):List GTask→Nat→(List Int)→Option qi
 | [],i,v3=>some (.x0 v3)
 | hd::rest,i,v3=>(cH v0 9223372036854775808 v3 (0:Int)).bind fun y=>match y with
  | .x2 w0_3=>(eD v0 rest (i+1) w0_3)
theorem wU {q0:Kd} (v0:List GTask) (rest:List GTask):∀ (i:Nat) (v3:List Int),(v0).drop i=rest→v0.length≤9223372036854775807→Ans (eD v0 rest i v3) (wX (q0:=q0) v0 v3 (i:Int)):=by
 induction rest with
 | nil =>
  intro i v3 hE hl
  have hb:=bq hE
  unfold eD
  exact Ib (Id (show qh (jQ q0 v0 v3 (i:Int)) (.exit 0) (k7 q0 v3) from RP [.val (.int .i64 (v0.length:Int)),.b false] (ALn v0 (GTask.t q0)<|AC hb<|AN)) (by intro h;cases h))
 | cons hd rest ih =>
  intro i v3 hE hl
  have hb:=a8 hE
  have hw:=ba hE hl
  have hE2:=aG hE
  have hg:=bd hE
  unfold eD
  refine If (fun y hy => ?_)
  replace hy:=wV (q0:=q0) v0 (i:Int) 9223372036854775808 v3 (0:Int) y hy
  cases y with
  | x2 w0_3 =>
   have h1:=hy
   exact (ih (i+1) w0_3 hE2 hl).mono fun y hy=>by have r:qh (jQ q0 v0 v3 (i:Int)) .normal (jQ q0 v0 w0_3 (inc (i:Int))):=RP [.val (.int .i64 (v0.length:Int)),.b true,.lp (.exit 2) (k8 q0 v0 (i:Int) w0_3)] (ALn v0 (GTask.t q0)<|AC hb<|AL h1<|AN);rw [hw] at r;cases y<;>exact Ic r hy
noncomputable def k9 (x0:List GTask):Option ((List Int)) :=
  if x0.length≤9223372036854775807 then (eD x0 x0 0 ([])).bind fun y=>match y with
   | .x0 w0_3=>(some (w0_3)) else none
theorem zi {q0:Kd} (x0:List GTask):Ans (k9 x0) (fun r=>Does E 37 [.one (.s .far () 5 (x0.map (GTask.t q0)))] [(false,[.s .own () 1 (r.map etI)])]):=by
 unfold k9
 refine Ig (fun hl1 => ?_)
 refine If (fun y hy => ?_)
 replace hy:=wU (q0:=q0) x0 x0 0 ([]) rfl hl1 y hy
 cases y with
 | x0 w0_3 =>
  have h0:=hy
  exact Ib (DP Tryz.f37 [.lp (.exit 0) (k7 q0 w0_3)] (AL h0<|AN))
theorem y7 (ts:List GTask) (o:List Int) (i:Nat) (t:GTask) (ht:ts.length≤1050000) (ho:o.length≤1050000) (hi:ts[i]?=some t) (hf:t.f4.length≤1050000):∀ (m k n:Nat) (b:Bool),k+m=t.f4.length→m<n →
  dR ts o (i:Int) n b (k:Int)=some (.x4 (b&&((t.f4.drop k).all fun x=>b7 o (ap ts x))))
 | m,k,0,b,_,hn=>by omega
 | m,k,n+1,b,hk,hn=>by
  have hg:aL ts (i:Int)=some t:=by rw [fJ];exact hi
  unfold dR
  cases m with
  | zero =>
   have hd:t.f4.drop k=[]:=List.drop_eq_nil_of_le (by omega)
   rw [hd]
   cases b<;>(simp only [hg,Option.bind_some];rw [decide_eq_false (by omega)];rfl)
  | succ m =>
   have hx:∃ x,t.f4[k]?=some x:=⟨t.f4[k]'(by omega),List.getElem?_eq_getElem (by omega)⟩
   obtain ⟨x,hx⟩:=hx
   have hd:t.f4.drop k=x::t.f4.drop (k+1):=by
    rw [List.drop_eq_getElem_cons (by omega:k<t.f4.length)]
    rw [List.getElem?_eq_getElem (by omega)] at hx
    rw [Option.some.inj hx]
   have e:inc (k:Int)=((k+1:Nat):Int):=by rw [m9 _ (by omega) (by omega)];omega
   rw [hd,List.all_cons]
   cases b with
   | false =>
    simp only [hg,Option.bind_some]
    rw [decide_eq_true (by omega),cond_true,e,y7 ts o i t ht ho hi hf m (k+1) n false (by omega) (by omega)];rfl
   | true =>
    have hy:aL t.f4 (k:Int)=some x:=by rw [fJ];exact hx
    simp only [hg,Option.bind_some]
    rw [decide_eq_true (by omega),cond_true,hy,Option.bind_some,if_pos ht,if_pos ho,e,y7 ts o i t ht ho hi hf m (k+1) n _ (by omega) (by omega)];rfl
theorem Bb (ts:List GTask) (hs:an.sm ts) (hg:d7 ts) (o:List Int) (ho:o.length≤1000):∀ (m i n:Nat),i+m=ts.length→m+1<n →
  cH ts n o (i:Int)=some (.x2 (match dV o ts (ts.drop i) i with | some k=>o++[(k:Int)] | none=>o))
 | m,i,0,_,hn=>by omega
 | m,i,n+1,hi,hn=>by
  have h4:=hg.1
  unfold cH
  cases m with
  | zero =>
   have hd:ts.drop i=[]:=List.drop_eq_nil_of_le (by omega)
   rw [hd,decide_eq_false (by omega)];rfl
  | succ m =>
   have hlt:i<ts.length:=by omega
   have ht:ts[i]?=some ts[i]:=List.getElem?_eq_getElem hlt
   have hd:ts.drop i=ts[i]::ts.drop (i+1):=List.drop_eq_getElem_cons hlt
   have hf:ts[i].f4.length≤1050000:=(hs.2 ts[i] (List.getElem_mem _)).2.2.1
   have e:inc (i:Int)=((i+1:Nat):Int):=by rw [m9 _ (by omega) (by omega)];omega
   have hn':=hg.2 i _ ht
   have fr:=y7 ts o i ts[i] hs.1 (by omega) ht hf ts[i].f4.length 0 9223372036854775808 true (by omega) (by omega)
   have ih:=Bb ts hs hg o ho m (i+1) n (by omega) (by omega)
   rw [List.drop_zero,Bool.true_and] at fr
   have fr':dR ts o (i:Int) 9223372036854775808 true (0:Int)=some (.x4 (nG ts o ts[i])):=fr
   rw [decide_eq_true (by omega),cond_true,if_pos (by omega),hd,fr',e]
   unfold dV
   rw [hn']
   cases b7 o (i:Int) with
   | true=>rw [cond_true,ih];rfl
   | false =>
    rw [cond_false,Option.bind_some]
    cases nG ts o ts[i] with
    | false =>
     simp only [ih];rfl
    | true =>
     have stop:∀ w,cH ts n w (inc (ts.length:Int))=some (.x2 w):=fun w=>by
      obtain ⟨n,rfl⟩:∃ j,n=j+1:=⟨n-1,by omega⟩
      unfold cH
      rw [m9 _ (by omega) (by omega),decide_eq_false (by omega)];rfl
     simp only [stop]
     rw [if_pos (by simp;omega)];rfl
theorem tt (ts:List GTask) (hs:an.sm ts) (hg:d7 ts):∀ (l:List GTask) (i:Nat) (o:List Int),o.length+l.length≤1000→eD ts l i o=some (.x0 (jA ts l.length o))
 | [],i,o,_=>rfl
 | x::l,i,o,hl=>by
  have h4:=hg.1
  simp only [List.length_cons] at hl
  unfold eD
  have r:=Bb ts hs hg o (by omega) ts.length 0 9223372036854775808 (by omega) (by omega)
  rw [List.drop_zero] at r
  refine (congrArg (Option.bind · _) r).trans ?_
  rw [Option.bind_some]
  simp only [List.length_cons]
  unfold jA
  cases q:dV o ts ts 0 with
  | none =>
   simp only
   rw [tt ts hs hg l (i+1) o (by omega)]
   have:∀ k,jA ts k o=o:=fun k=>by
    cases k with
    | zero=>rfl
    | succ k=>unfold jA;rw [q]
   rw [this]
  | some k =>
   simp only
   exact tt ts hs hg l (i+1) _ (by simp;omega)
theorem Fa (ts:List GTask) (hs:an.sm ts) (hg:d7 ts):k9 ts=some (jz ts):=by
 have h4:=hg.1
 unfold k9
 rw [if_pos (by omega),tt ts hs hg ts 0 [] (by simp;omega)]
 rfl
theorem xq {q0:Kd} (x0:List GTask) (h:an.sm x0) (hg:d7 x0):Does E 37 [.one (.s .far () 5 (x0.map (GTask.t q0)))] [(false,[.s .own () 1 ((jz x0).map etI)])]:=by
 exact zi x0 _ (Fa x0 h hg)
end Go.Proofs.YtjfbofdmjihglaaGreatDoor.Am
namespace Go.Proofs.YtjfbofdmjihglaaGreatDoor.Am
open Go Go.Proofs Classical
set_option maxRecDepth 100000
set_option linter.unusedVariables false
set_option linter.unusedSimpArgs false
inductive sB where
 | ret (v2:Bool)
 | x0 
def dY (v1_0 v1_1:ByteArray) (v1_2:Int) (v1_3:Bool) (v1_4 v28:List ByteArray) (v29 v30:Int):US:=stL 54 [(1,.box () [tS v1_0,tS v1_1,tI v1_2,tB v1_3,.s .far () 1 (v1_4.map etS)]),(28,.one (.s .far () 1 (v28.map etS))),(29,.one (tI v29)),(30,.one (tI v30))]
def iX (zv2:Bool):US:=stL 54 [(2,.one (tB zv2))]
def mj  : US:=stL 54 []
abbrev jy:US→Exit→US→Prop:=Round E 47 (au Tryz.f47 0)
def Ak (v1_0 v1_1:ByteArray) (v1_2:Int) (v1_3:Bool) (v1_4 v28:List ByteArray) (v29 v30:Int):sB→Prop
 | .ret zv2=>Loops E 47 (au Tryz.f47 0) (dY v1_0 v1_1 v1_2 v1_3 v1_4 v28 v29 v30) .ret (iX zv2)
 | .x0=>Loops E 47 (au Tryz.f47 0) (dY v1_0 v1_1 v1_2 v1_3 v1_4 v28 v29 v30) (.exit 0) (mj)
noncomputable def eL (v1_0:ByteArray) (v1_4:List ByteArray):List ByteArray→Nat→Bool→Option sB
 | [],i,v1_3=>some (.x0)
 | hd::rest,i,v1_3=>cond (hd.toList==v1_0.toList)
  (some (.ret false))
  (cond (decide ((i:Int)>(0:Int)))
   ((aL v1_4 (IntKind.wrap .i64 ((i:Int)-(1:Int)))).bind fun g1=>cond (Op.bytesLess hd.toList g1.toList || hd.toList==g1.toList)
    (some (.ret false))
    (eL v1_0 v1_4 rest (i+1) v1_3))
   (eL v1_0 v1_4 rest (i+1) v1_3))
theorem Aj (v1_0 v1_1:ByteArray) (v1_2:Int) (v1_4 v28:List ByteArray) (rest:List ByteArray):∀ (i:Nat) (v1_3:Bool),(v28).drop i=rest→v28.length≤9223372036854775807→Ans (eL v1_0 v1_4 rest i v1_3) (Ak v1_0 v1_1 v1_2 v1_3 v1_4 v28 (v28.length:Int) (i:Int)):=by
 induction rest with
 | nil =>
  intro i v1_3 hE hl
  have hb:=bq hE
  unfold eL
  exact Ib (Id (show jy (dY v1_0 v1_1 v1_2 v1_3 v1_4 v28 (v28.length:Int) (i:Int)) (.exit 0) (mj) from RP [.b false] (AC hb<|AN)) (by intro h;cases h))
 | cons hd rest ih =>
  intro i v1_3 hE hl
  have hb:=a8 hE
  have hw:=ba hE hl
  have hE2:=aG hE
  have hg:=bd hE
  unfold eL
  apply Ie<;>intro h2
  ·exact Ib (Id (show jy (dY v1_0 v1_1 v1_2 v1_3 v1_4 v28 (v28.length:Int) (i:Int)) .ret (iX false) from RP [.b true,.row (etS hd),.b true] (AC hb<|AR etS hg<|AC h2<|AN)) (by intro h;cases h))
  ·apply Ie<;>intro h3
   ·refine If (fun g1 h4 => ?_)
    apply Ie<;>intro h5
    ·exact Ib (Id (show jy (dY v1_0 v1_1 v1_2 v1_3 v1_4 v28 (v28.length:Int) (i:Int)) .ret (iX false) from RP [.b true,.row (etS hd),.b false,.b true,.row (etS g1),.b true] (AC hb<|AR etS hg<|AC h2<|AC h3<|AR etS h4<|AC h5<|AN)) (by intro h;cases h))
    ·exact (ih (i+1) v1_3 hE2 hl).mono fun y hy=>by have r:jy (dY v1_0 v1_1 v1_2 v1_3 v1_4 v28 (v28.length:Int) (i:Int)) .normal (dY v1_0 v1_1 v1_2 v1_3 v1_4 v28 (v28.length:Int) (inc (i:Int))):=RP [.b true,.row (etS hd),.b false,.b true,.row (etS g1),.b false] (AC hb<|AR etS hg<|AC h2<|AC h3<|AR etS h4<|AC h5<|AN);rw [hw] at r;cases y<;>exact Ic r hy
   ·exact (ih (i+1) v1_3 hE2 hl).mono fun y hy=>by have r:jy (dY v1_0 v1_1 v1_2 v1_3 v1_4 v28 (v28.length:Int) (i:Int)) .normal (dY v1_0 v1_1 v1_2 v1_3 v1_4 v28 (v28.length:Int) (inc (i:Int))):=RP [.b true,.row (etS hd),.b false,.b false] (AC hb<|AR etS hg<|AC h2<|AC h3<|AN);rw [hw] at r;cases y<;>exact Ic r hy
noncomputable def mE (x0:GTask):Option (Bool) :=
  if x0.f0.size≤2000000 then cond (c7 x0.f0)
   (cond ((bw x0.f1)==(0:Int))
    (some (false))
    (cond (aB x0.f2 (0:Int) (3:Int))
     (cond (decide ((x0.f4.length:Int)>(4:Int)))
      (some (false))
      (if x0.f4.length≤9223372036854775807 then (eL x0.f0 x0.f4 x0.f4 0 x0.f3).bind fun y=>match y with
       | .ret w0_2=>(some (w0_2))
       | .x0=>(some (true)) else none))
     (some (false))))
   (some (false)) else none
theorem B2 (x0:GTask):Ans (mE x0) (fun r=>Does E 47 [.agg (GTask.t .far x0)] [(false,[tB r])]):=by
 unfold mE
 refine Ig (fun h0 => ?_)
 apply Ie<;>intro h1
 ·apply Ie<;>intro h2
  ·exact Ib (DP Tryz.f47 [rT,.ret [(false,[tI (bw x0.f1)])],.b true] (AD (Ij (ct x0.f0 h0) h1)<|AD (il x0.f1)<|AC h2<|AN))
  ·apply Ie<;>intro h3
   ·apply Ie<;>intro h4
    ·exact Ib (DP Tryz.f47 [rT,.ret [(false,[tI (bw x0.f1)])],.b false,rT,.val (.int .i64 (x0.f4.length:Int)),.b true] (AD (Ij (ct x0.f0 h0) h1)<|AD (il x0.f1)<|AC h2<|AD (Ij (cC x0.f2 (0:Int) (3:Int)) h3)<|ALn x0.f4 etS<|AC h4<|AN))
    ·refine Ig (fun hl5 => ?_)
     refine If (fun y hy => ?_)
     replace hy:=Aj x0.f0 x0.f1 x0.f2 x0.f4 x0.f4 x0.f4 0 x0.f3 rfl hl5 y hy
     cases y with
     | ret w0_2 =>
      have h5:=hy
      exact Ib (DP Tryz.f47 [rT,.ret [(false,[tI (bw x0.f1)])],.b false,rT,.val (.int .i64 (x0.f4.length:Int)),.b false,.val (.int .i64 (x0.f4.length:Int)),.lp .ret (iX w0_2)] (AD (Ij (ct x0.f0 h0) h1)<|AD (il x0.f1)<|AC h2<|AD (Ij (cC x0.f2 (0:Int) (3:Int)) h3)<|ALn x0.f4 etS<|AC h4<|ALn x0.f4 etS<|AL h5<|AN))
     | x0 =>
      have h5:=hy
      exact Ib (DP Tryz.f47 [rT,.ret [(false,[tI (bw x0.f1)])],.b false,rT,.val (.int .i64 (x0.f4.length:Int)),.b false,.val (.int .i64 (x0.f4.length:Int)),.lp (.exit 0) (mj)] (AD (Ij (ct x0.f0 h0) h1)<|AD (il x0.f1)<|AC h2<|AD (Ij (cC x0.f2 (0:Int) (3:Int)) h3)<|ALn x0.f4 etS<|AC h4<|ALn x0.f4 etS<|AL h5<|AN))
   ·exact Ib (DP Tryz.f47 [rT,.ret [(false,[tI (bw x0.f1)])],.b false,rF] (AD (Ij (ct x0.f0 h0) h1)<|AD (il x0.f1)<|AC h2<|AD (Ij (cC x0.f2 (0:Int) (3:Int)) h3)<|AN))
 ·exact Ib (DP Tryz.f47 [rF] (AD (Ij (ct x0.f0 h0) h1)<|AN))
inductive rK where
 | ret (v4:Bool)
 | x0 
def bg (q0:Kd) (v0:List GTask) (v5_0 v5_1:ByteArray) (v5_2:Int) (v5_3:Bool) (v5_4:List ByteArray) (v6:Int):US:=stL 78 [(0,.one (.s .far () 5 (v0.map (GTask.t q0)))),(5,.box () [tS v5_0,tS v5_1,tI v5_2,tB v5_3,.s .far () 1 (v5_4.map etS)]),(6,.one (tI v6))]
def cT (q0:Kd) (zv4:Bool):US:=stL 78 [(4,.one (tB zv4))]
def jf (q0:Kd)  : US:=stL 78 []
abbrev cj:US→Exit→US→Prop:=Round E 58 (au Tryz.f58 0)
def zk {q0:Kd} (v0:List GTask) (v5_0 v5_1:ByteArray) (v5_2:Int) (v5_3:Bool) (v5_4:List ByteArray) (v6:Int):rK→Prop
 | .ret zv4=>Loops E 58 (au Tryz.f58 0) (bg q0 v0 v5_0 v5_1 v5_2 v5_3 v5_4 v6) .ret (cT q0 zv4)
 | .x0=>Loops E 58 (au Tryz.f58 0) (bg q0 v0 v5_0 v5_1 v5_2 v5_3 v5_4 v6) (.exit 0) (jf q0)
theorem vr {q0:Kd} (v0:List GTask) (v5_0 v5_1:ByteArray) (v5_2:Int) (v5_3:Bool) (v5_4:List ByteArray) (v6:Int) (g0:ByteArray) (h0:(decide (v6<(v5_4.length:Int)))=true) (h1:aL v5_4 v6=some g0) (h2:v0.length≤1050000) (h3:(decide ((ap v0 g0)<(0:Int)))=true):cj (bg q0 v0 v5_0 v5_1 v5_2 v5_3 v5_4 v6) .ret (cT q0 false) :=
 RP [.val (.int .i64 (v5_4.length:Int)),.b true,.row (etS g0),.ret [(false,[tI (ap v0 g0)])],.b true] (ALn v5_4 etS<|AC h0<|AR etS h1<|AV (ψ:=fun k=>E.C k 63 [.one (.s .far () 5 (v0.map (GTask.t q0))),.one (tS g0)]=some [(false,[tI (ap v0 g0)])]) (d8 v0 g0 h2)<|AC h3<|AN)
theorem vt {q0:Kd} (v0:List GTask) (v5_0 v5_1:ByteArray) (v5_2:Int) (v5_3:Bool) (v5_4:List ByteArray) (v6:Int) (g0:ByteArray) (h0:(decide (v6<(v5_4.length:Int)))=true) (h1:aL v5_4 v6=some g0) (h2:v0.length≤1050000) (h3:(decide ((ap v0 g0)<(0:Int)))=false) (h4:(g0.toList==v5_0.toList)=true):cj (bg q0 v0 v5_0 v5_1 v5_2 v5_3 v5_4 v6) .ret (cT q0 false) :=
 RP [.val (.int .i64 (v5_4.length:Int)),.b true,.row (etS g0),.ret [(false,[tI (ap v0 g0)])],.b false,.row (etS g0),.b true] (ALn v5_4 etS<|AC h0<|AR etS h1<|AV (ψ:=fun k=>E.C k 63 [.one (.s .far () 5 (v0.map (GTask.t q0))),.one (tS g0)]=some [(false,[tI (ap v0 g0)])]) (d8 v0 g0 h2)<|AC h3<|AR etS h1<|AC h4<|AN)
theorem vu {q0:Kd} (v0:List GTask) (v5_0 v5_1:ByteArray) (v5_2:Int) (v5_3:Bool) (v5_4:List ByteArray) (v6:Int) (g0 g1:ByteArray) (h0:(decide (v6<(v5_4.length:Int)))=true) (h1:aL v5_4 v6=some g0) (h2:v0.length≤1050000) (h3:(decide ((ap v0 g0)<(0:Int)))=false) (h4:(g0.toList==v5_0.toList)=false) (h5:(decide (v6>(0:Int)))=true) (h6:aL v5_4 (IntKind.wrap .i64 (v6-(1:Int)))=some g1) (h7:(!Op.bytesLess g1.toList g0.toList)=true):cj (bg q0 v0 v5_0 v5_1 v5_2 v5_3 v5_4 v6) .ret (cT q0 false) :=
 RP [.val (.int .i64 (v5_4.length:Int)),.b true,.row (etS g0),.ret [(false,[tI (ap v0 g0)])],.b false,.row (etS g0),.b false,.b true,.row (etS g1),.row (etS g0),.b true] (ALn v5_4 etS<|AC h0<|AR etS h1<|AV (ψ:=fun k=>E.C k 63 [.one (.s .far () 5 (v0.map (GTask.t q0))),.one (tS g0)]=some [(false,[tI (ap v0 g0)])]) (d8 v0 g0 h2)<|AC h3<|AR etS h1<|AC h4<|AC h5<|AR etS h6<|AR etS h1<|AC h7<|AN)
theorem vv {q0:Kd} (v0:List GTask) (v5_0 v5_1:ByteArray) (v5_2:Int) (v5_3:Bool) (v5_4:List ByteArray) (v6:Int) (g0 g1:ByteArray) (h0:(decide (v6<(v5_4.length:Int)))=true) (h1:aL v5_4 v6=some g0) (h2:v0.length≤1050000) (h3:(decide ((ap v0 g0)<(0:Int)))=false) (h4:(g0.toList==v5_0.toList)=false) (h5:(decide (v6>(0:Int)))=true) (h6:aL v5_4 (IntKind.wrap .i64 (v6-(1:Int)))=some g1) (h7:(!Op.bytesLess g1.toList g0.toList)=false):cj (bg q0 v0 v5_0 v5_1 v5_2 v5_3 v5_4 v6) .normal (bg q0 v0 v5_0 v5_1 v5_2 v5_3 v5_4 (inc v6)) :=
 RP [.val (.int .i64 (v5_4.length:Int)),.b true,.row (etS g0),.ret [(false,[tI (ap v0 g0)])],.b false,.row (etS g0),.b false,.b true,.row (etS g1),.row (etS g0),.b false] (ALn v5_4 etS<|AC h0<|AR etS h1<|AV (ψ:=fun k=>E.C k 63 [.one (.s .far () 5 (v0.map (GTask.t q0))),.one (tS g0)]=some [(false,[tI (ap v0 g0)])]) (d8 v0 g0 h2)<|AC h3<|AR etS h1<|AC h4<|AC h5<|AR etS h6<|AR etS h1<|AC h7<|AN)
theorem vw {q0:Kd} (v0:List GTask) (v5_0 v5_1:ByteArray) (v5_2:Int) (v5_3:Bool) (v5_4:List ByteArray) (v6:Int) (g0:ByteArray) (h0:(decide (v6<(v5_4.length:Int)))=true) (h1:aL v5_4 v6=some g0) (h2:v0.length≤1050000) (h3:(decide ((ap v0 g0)<(0:Int)))=false) (h4:(g0.toList==v5_0.toList)=false) (h5:(decide (v6>(0:Int)))=false):cj (bg q0 v0 v5_0 v5_1 v5_2 v5_3 v5_4 v6) .normal (bg q0 v0 v5_0 v5_1 v5_2 v5_3 v5_4 (inc v6)) :=
 RP [.val (.int .i64 (v5_4.length:Int)),.b true,.row (etS g0),.ret [(false,[tI (ap v0 g0)])],.b false,.row (etS g0),.b false,.b false] (ALn v5_4 etS<|AC h0<|AR etS h1<|AV (ψ:=fun k=>E.C k 63 [.one (.s .far () 5 (v0.map (GTask.t q0))),.one (tS g0)]=some [(false,[tI (ap v0 g0)])]) (d8 v0 g0 h2)<|AC h3<|AR etS h1<|AC h4<|AC h5<|AN)
theorem vx {q0:Kd} (v0:List GTask) (v5_0 v5_1:ByteArray) (v5_2:Int) (v5_3:Bool) (v5_4:List ByteArray) (v6:Int) (h0:(decide (v6<(v5_4.length:Int)))=false):cj (bg q0 v0 v5_0 v5_1 v5_2 v5_3 v5_4 v6) (.exit 0) (jf q0) :=
 RP [.val (.int .i64 (v5_4.length:Int)),.b false] (ALn v5_4 etS<|AC h0<|AN)
noncomputable def eh (v0:List GTask) (v5_0:ByteArray) (v5_4:List ByteArray):List ByteArray→Nat→Bool→Option rK
 | [],i,v5_3=>some (.x0)
 | hd::rest,i,v5_3=>if v0.length≤1050000 then cond (decide ((ap v0 hd)<(0:Int)))
  (some (.ret false))
  (cond (hd.toList==v5_0.toList)
   (some (.ret false))
   (cond (decide ((i:Int)>(0:Int)))
    ((aL v5_4 (IntKind.wrap .i64 ((i:Int)-(1:Int)))).bind fun g1=>cond (!Op.bytesLess g1.toList hd.toList)
     (some (.ret false))
     (eh v0 v5_0 v5_4 rest (i+1) v5_3))
    (eh v0 v5_0 v5_4 rest (i+1) v5_3))) else none
theorem zj {q0:Kd} (v0:List GTask) (v5_0 v5_1:ByteArray) (v5_2:Int) (v5_4:List ByteArray) (rest:List ByteArray):∀ (i:Nat) (v5_3:Bool),(v5_4).drop i=rest→v5_4.length≤9223372036854775807→Ans (eh v0 v5_0 v5_4 rest i v5_3) (zk (q0:=q0) v0 v5_0 v5_1 v5_2 v5_3 v5_4 (i:Int)):=by
 induction rest with
 | nil =>
  intro i v5_3 hE hl
  have hb:=bq hE
  unfold eh
  exact Ib (Id (show cj (bg q0 v0 v5_0 v5_1 v5_2 v5_3 v5_4 (i:Int)) (.exit 0) (jf q0) from vx (q0:=q0) v0 v5_0 v5_1 v5_2 v5_3 v5_4 (i:Int) hb) (by intro h;cases h))
 | cons hd rest ih =>
  intro i v5_3 hE hl
  have hb:=a8 hE
  have hw:=ba hE hl
  have hE2:=aG hE
  have hg:=bd hE
  unfold eh
  refine Ig (fun h2 => ?_)
  apply Ie<;>intro h3
  ·exact Ib (Id (show cj (bg q0 v0 v5_0 v5_1 v5_2 v5_3 v5_4 (i:Int)) .ret (cT q0 false) from vr (q0:=q0) v0 v5_0 v5_1 v5_2 v5_3 v5_4 (i:Int) hd hb hg h2 h3) (by intro h;cases h))
  ·apply Ie<;>intro h4
   ·exact Ib (Id (show cj (bg q0 v0 v5_0 v5_1 v5_2 v5_3 v5_4 (i:Int)) .ret (cT q0 false) from vt (q0:=q0) v0 v5_0 v5_1 v5_2 v5_3 v5_4 (i:Int) hd hb hg h2 h3 h4) (by intro h;cases h))
   ·apply Ie<;>intro h5
    ·refine If (fun g1 h6 => ?_)
     apply Ie<;>intro h7
     ·exact Ib (Id (show cj (bg q0 v0 v5_0 v5_1 v5_2 v5_3 v5_4 (i:Int)) .ret (cT q0 false) from vu (q0:=q0) v0 v5_0 v5_1 v5_2 v5_3 v5_4 (i:Int) hd g1 hb hg h2 h3 h4 h5 h6 h7) (by intro h;cases h))
     ·exact (ih (i+1) v5_3 hE2 hl).mono fun y hy=>by have r:cj (bg q0 v0 v5_0 v5_1 v5_2 v5_3 v5_4 (i:Int)) .normal (bg q0 v0 v5_0 v5_1 v5_2 v5_3 v5_4 (inc (i:Int))):=vv (q0:=q0) v0 v5_0 v5_1 v5_2 v5_3 v5_4 (i:Int) hd g1 hb hg h2 h3 h4 h5 h6 h7;rw [hw] at r;cases y<;>exact Ic r hy
    ·exact (ih (i+1) v5_3 hE2 hl).mono fun y hy=>by have r:cj (bg q0 v0 v5_0 v5_1 v5_2 v5_3 v5_4 (i:Int)) .normal (bg q0 v0 v5_0 v5_1 v5_2 v5_3 v5_4 (inc (i:Int))):=vw (q0:=q0) v0 v5_0 v5_1 v5_2 v5_3 v5_4 (i:Int) hd hb hg h2 h3 h4 h5;rw [hw] at r;cases y<;>exact Ic r hy
noncomputable def lX (x0:List GTask) (x1:Int):Option (Bool) :=
  (aL x0 x1).bind fun g0=>if g0.f0.size≤2000000 then cond (c7 g0.f0)
   (if x0.length≤1050000 then cond ((ap x0 g0.f0) != x1)
    (some (false))
    (cond ((bw g0.f1)==(0:Int))
     (some (false))
     (cond (aB g0.f2 (0:Int) (3:Int))
      (if g0.f4.length≤9223372036854775807 then (eh x0 g0.f0 g0.f4 g0.f4 0 g0.f3).bind fun y=>match y with
       | .ret w0_4=>(some (w0_4))
       | .x0=>(some (true)) else none)
      (some (false)))) else none)
   (some (false)) else none
theorem AF {q0:Kd} (x0:List GTask) (x1:Int):Ans (lX x0 x1) (fun r=>Does E 58 [.one (.s .far () 5 (x0.map (GTask.t q0))),.one (tI x1)] [(false,[tB r])]):=by
 unfold lX
 refine If (fun g0 h0 => ?_)
 refine Ig (fun h1 => ?_)
 apply Ie<;>intro h2
 ·refine Ig (fun h3 => ?_)
  apply Ie<;>intro h4
  ·exact Ib (DP Tryz.f58 [.row ((GTask.t q0) g0),rT,.ret [(false,[tI (ap x0 g0.f0)])],.b true] (AR (GTask.t q0) h0<|AD (Ij (ca g0.f0 h1) h2)<|AV (ψ:=fun k=>E.C k 63 [.one (.s .far () 5 (x0.map (GTask.t q0))),.one (tS g0.f0)]=some [(false,[tI (ap x0 g0.f0)])]) (d8 x0 g0.f0 h3)<|AC h4<|AN))
  ·apply Ie<;>intro h5
   ·exact Ib (DP Tryz.f58 [.row ((GTask.t q0) g0),rT,.ret [(false,[tI (ap x0 g0.f0)])],.b false,.ret [(false,[tI (bw g0.f1)])],.b true] (AR (GTask.t q0) h0<|AD (Ij (ca g0.f0 h1) h2)<|AV (ψ:=fun k=>E.C k 63 [.one (.s .far () 5 (x0.map (GTask.t q0))),.one (tS g0.f0)]=some [(false,[tI (ap x0 g0.f0)])]) (d8 x0 g0.f0 h3)<|AC h4<|AD (kp g0.f1)<|AC h5<|AN))
   ·apply Ie<;>intro h6
    ·refine Ig (fun hl5 => ?_)
     refine If (fun y hy => ?_)
     replace hy:=zj (q0:=q0) x0 g0.f0 g0.f1 g0.f2 g0.f4 g0.f4 0 g0.f3 rfl hl5 y hy
     cases y with
     | ret w0_4 =>
      have h7:=hy
      exact Ib (DP Tryz.f58 [.row ((GTask.t q0) g0),rT,.ret [(false,[tI (ap x0 g0.f0)])],.b false,.ret [(false,[tI (bw g0.f1)])],.b false,rT,.lp .ret (cT q0 w0_4)] (AR (GTask.t q0) h0<|AD (Ij (ca g0.f0 h1) h2)<|AV (ψ:=fun k=>E.C k 63 [.one (.s .far () 5 (x0.map (GTask.t q0))),.one (tS g0.f0)]=some [(false,[tI (ap x0 g0.f0)])]) (d8 x0 g0.f0 h3)<|AC h4<|AD (kp g0.f1)<|AC h5<|AD (Ij (bh g0.f2 (0:Int) (3:Int)) h6)<|AL h7<|AN))
     | x0 =>
      have h7:=hy
      exact Ib (DP Tryz.f58 [.row ((GTask.t q0) g0),rT,.ret [(false,[tI (ap x0 g0.f0)])],.b false,.ret [(false,[tI (bw g0.f1)])],.b false,rT,.lp (.exit 0) (jf q0)] (AR (GTask.t q0) h0<|AD (Ij (ca g0.f0 h1) h2)<|AV (ψ:=fun k=>E.C k 63 [.one (.s .far () 5 (x0.map (GTask.t q0))),.one (tS g0.f0)]=some [(false,[tI (ap x0 g0.f0)])]) (d8 x0 g0.f0 h3)<|AC h4<|AD (kp g0.f1)<|AC h5<|AD (Ij (bh g0.f2 (0:Int) (3:Int)) h6)<|AL h7<|AN))
    ·exact Ib (DP Tryz.f58 [.row ((GTask.t q0) g0),rT,.ret [(false,[tI (ap x0 g0.f0)])],.b false,.ret [(false,[tI (bw g0.f1)])],.b false,rF] (AR (GTask.t q0) h0<|AD (Ij (ca g0.f0 h1) h2)<|AV (ψ:=fun k=>E.C k 63 [.one (.s .far () 5 (x0.map (GTask.t q0))),.one (tS g0.f0)]=some [(false,[tI (ap x0 g0.f0)])]) (d8 x0 g0.f0 h3)<|AC h4<|AD (kp g0.f1)<|AC h5<|AD (Ij (bh g0.f2 (0:Int) (3:Int)) h6)<|AN))
 ·exact Ib (DP Tryz.f58 [.row ((GTask.t q0) g0),rF] (AR (GTask.t q0) h0<|AD (Ij (ca g0.f0 h1) h2)<|AN))
def asc (self:ByteArray):List ByteArray→Option ByteArray→Bool
 | [],_=>true
 | x::l,p => !(x.toList==self.toList)&&(match p with | some y=>Op.bytesLess y.toList x.toList | none=>true)&&asc self l (some x)
theorem yB:∀ a b:List UInt8,(Op.bytesLess a b || a==b) = !Op.bytesLess b a
 | [],[]=>rfl
 | [],_::_=>rfl
 | _::_,[]=>rfl
 | x::a,y::b=>by
  have ih:=yB a b
  unfold Op.bytesLess
  have e:(x::a==y::b)=(x==y&&a==b):=rfl
  rw [e]
  rcases Nat.lt_trichotomy x.toNat y.toNat with h | h | h
  ·have h1:x<y:=UInt8.lt_iff_toNat_lt.2 h
   have h2:¬ y<x:=fun q=>by have:=UInt8.lt_iff_toNat_lt.1 q;omega
   have h3:(y==x)=false:=by rw [beq_eq_false_iff_ne];intro q;subst q;omega
   simp [h1,h2,h3]
  ·have h0:x=y:=UInt8.toNat_inj.1 h
   subst h0
   have h2:¬ x<x:=fun q=>by have:=UInt8.lt_iff_toNat_lt.1 q;omega
   simp only [h2,decide_false,Bool.false_or,beq_self_eq_true,Bool.true_and]
   exact ih
  ·have h1:y<x:=UInt8.lt_iff_toNat_lt.2 h
   have h2:¬ x<y:=fun q=>by have:=UInt8.lt_iff_toNat_lt.1 q;omega
   have h3:(x==y)=false:=by rw [beq_eq_false_iff_ne];intro q;subst q;omega
   simp [h1,h2,h3]
theorem sD:∀ a:List UInt8,Op.bytesLess a a=false
 | []=>rfl
 | x::a=>by
  unfold Op.bytesLess
  have h2:¬ x<x:=fun q=>by have:=UInt8.lt_iff_toNat_lt.1 q;omega
  simp [h2,sD a]
theorem um:∀ {a b c:List UInt8},Op.bytesLess a b=true→Op.bytesLess b c=true→Op.bytesLess a c=true
 | [],[],_,h,_=>by cases h
 | [],_::_,[],_,h=>by cases h
 | [],_::_,_::_,_,_=>rfl
 | _::_,[],_,h,_=>by cases h
 | _::_,_::_,[],_,h=>by cases h
 | x::a,y::b,z::c,h1,h2=>by
  unfold Op.bytesLess at *
  simp only [Bool.or_eq_true,decide_eq_true_eq,Bool.and_eq_true,beq_iff_eq,UInt8.lt_iff_toNat_lt] at *
  rcases h1 with h1 | ⟨rfl,h1⟩
  ·rcases h2 with h2 | ⟨rfl,h2⟩
   ·exact .inl (by omega)
   ·exact .inl h1
  ·rcases h2 with h2 | ⟨rfl,h2⟩
   ·exact .inl h2
   ·exact .inr ⟨rfl,um h1 h2⟩
theorem vG (self:ByteArray):∀ (l:List ByteArray) (p:Option ByteArray),asc self l p=true→(l.map tx).Nodup∧∀ y,p=some y→∀ x∈l,Op.bytesLess (tx y) (tx x)=true
 | [],p,_=>⟨by simp,fun y _ x hx=>by cases hx⟩
 | z::l,p,h=>by
  unfold asc at h
  simp only [Bool.and_eq_true] at h
  obtain ⟨h1,h2⟩:=vG self l (some z) h.2
  have h3:=h2 z rfl
  refine ⟨?_,fun y e x hx => ?_⟩
  ·rw [List.map_cons,List.nodup_cons]
   refine ⟨fun q => ?_,h1⟩
   obtain ⟨w,hw,e⟩:=List.mem_map.1 q
   have:=h3 w hw
   rw [e,sD] at this
   cases this
  ·subst e
   have h4:Op.bytesLess (tx y) (tx z)=true:=by have:=h.1.2;simp only [uR] at this;exact this
   rcases List.mem_cons.1 hx with rfl | hx
   ·exact h4
   ·exact um h4 (h3 x hx)
theorem Bg {α:Type} [DecidableEq α]:∀ {l m:List α},l.Nodup→(∀ x∈l,x∈m)→l.length≤m.length
 | [],_,_,_=>Nat.zero_le _
 | x::l,m,h,hm=>by
  rw [List.nodup_cons] at h
  have hx:=hm x (by simp)
  have:=Bg (l:=l) (m:=m.erase x) h.2 fun y hy=>(List.mem_erase_of_ne (fun e=>h.1 (by rw [← e];exact hy))).2 (hm y (by simp [hy]))
  rw [List.length_erase_of_mem hx] at this
  have:0<m.length:=List.length_pos_of_mem hx
  simp only [List.length_cons]
  omega
theorem EG (self:ByteArray) (aH:List ByteArray) (hl:aH.length≤1050000):∀ (rest:List ByteArray) (i:Nat) (z:Bool),aH.drop i=rest→eL self aH rest i z=some (cond (asc self rest (if i=0 then none else aH[i-1]?)) .x0 (.ret false))
 | [],i,z,_=>rfl
 | x::rest,i,z,h=>by
  have ih:=EG self aH hl rest (i+1) z (aG h)
  have hp:(if i+1=0 then none else aH[i+1-1]?)=some x:=by
   rw [if_neg (by omega)]
   show aH[i]?=some x
   rw [← List.head?_drop,h];rfl
  rw [hp] at ih
  unfold eL asc
  rw [ih]
  cases x.toList==self.toList with
  | true=>rfl
  | false =>
   rw [cond_false]
   by_cases q:i=0
   ·subst q
    rw [decide_eq_false (by omega),if_pos rfl,cond_false];rfl
   ·have hi:i-1<aH.length:=by
     rcases Nat.lt_or_ge i aH.length with g | g
     ·omega
     ·rw [List.drop_eq_nil_of_le g] at h;cases h
    have hi2:i≤aH.length:=by
     rcases Nat.lt_or_ge i aH.length with g | g
     ·omega
     ·rw [List.drop_eq_nil_of_le g] at h;cases h
    have hy:aH[i-1]?=some aH[i-1]:=List.getElem?_eq_getElem hi
    have hg:aL aH (IntKind.wrap .i64 ((i:Int)-1))=some aH[i-1]:=by
     rw [cW _ (by omega) (by omega),show ((i:Int)-1)=((i-1:Nat):Int) by omega,fJ,hy]
    rw [decide_eq_true (by omega),if_neg q,cond_true,hg,Option.bind_some,hy,yB]
    simp only [Bool.not_false,Bool.true_and]
    cases Op.bytesLess aH[i-1].toList x.toList<;>rfl
theorem EH (ts:List GTask) (ht:ts.length≤1050000) (self:ByteArray) (aH:List ByteArray) (hl:aH.length≤1050000):∀ (rest:List ByteArray) (i:Nat) (z:Bool),aH.drop i=rest→eh ts self aH rest i z=some (cond (asc self rest (if i=0 then none else aH[i-1]?)&&rest.all fun n=>decide (0≤ap ts n)) .x0 (.ret false))
 | [],i,z,_=>rfl
 | x::rest,i,z,h=>by
  have ih:=EH ts ht self aH hl rest (i+1) z (aG h)
  have hp:(if i+1=0 then none else aH[i+1-1]?)=some x:=by
   rw [if_neg (by omega)]
   show aH[i]?=some x
   rw [← List.head?_drop,h];rfl
  rw [hp] at ih
  unfold eh asc
  rw [ih,if_pos ht,List.all_cons]
  by_cases w:ap ts x<0
  ·rw [decide_eq_true w,decide_eq_false (by omega:¬ 0≤ap ts x),Bool.false_and,Bool.and_false];rfl
  ·rw [decide_eq_false w,decide_eq_true (by omega:0≤ap ts x),Bool.true_and,cond_false]
   cases x.toList==self.toList with
   | true=>rfl
   | false =>
    rw [cond_false]
    by_cases q:i=0
    ·subst q
     rw [decide_eq_false (by omega),if_pos rfl,cond_false];rfl
    ·have hi:i-1<aH.length:=by
      rcases Nat.lt_or_ge i aH.length with g | g
      ·omega
      ·rw [List.drop_eq_nil_of_le g] at h;cases h
     have hi2:i≤aH.length:=by
      rcases Nat.lt_or_ge i aH.length with g | g
      ·omega
      ·rw [List.drop_eq_nil_of_le g] at h;cases h
     have hy:aH[i-1]?=some aH[i-1]:=List.getElem?_eq_getElem hi
     have hg:aL aH (IntKind.wrap .i64 ((i:Int)-1))=some aH[i-1]:=by
      rw [cW _ (by omega) (by omega),show ((i:Int)-1)=((i-1:Nat):Int) by omega,fJ,hy]
     rw [decide_eq_true (by omega),if_neg q,cond_true,hg,Option.bind_some,hy]
     simp only [Bool.not_false,Bool.true_and]
     cases Op.bytesLess aH[i-1].toList x.toList<;>rfl
noncomputable def mb (t:GTask):Bool:=c7 t.f0&&((bw t.f1 != 0)&&(aB t.f2 0 3&&(decide (t.f4.length≤4)&&asc t.f0 t.f4 none)))
noncomputable def gH (ts:List GTask) (i:Int) (t:GTask):Bool:=c7 t.f0&&((ap ts t.f0==i)&&((bw t.f1 != 0)&&(aB t.f2 0 3&&(asc t.f0 t.f4 none&&t.f4.all fun n=>decide (0≤ap ts n)))))
noncomputable def km (ts:List GTask) (i:Int):Bool:=match aL ts i with | some t=>gH ts i t | none=>false
theorem Bf {t:GTask} (h:an.sm t):t.f0.size≤2000000:=by
 have:t.f0.size≤1050000:=h.1
 omega
theorem ED (t:GTask) (h:an.sm t):mE t=some (mb t):=by
 have h4:t.f4.length≤1050000:=h.2.2.1
 unfold mE mb
 rw [if_pos (Bf h)]
 cases c7 t.f0 with
 | false=>rfl
 | true =>
  have e:(bw t.f1 != 0) = !(bw t.f1==0):=rfl
  rw [cond_true,Bool.true_and,e]
  cases bw t.f1==0 with
  | true=>rfl
  | false =>
   rw [cond_false,Bool.not_false,Bool.true_and]
   cases aB t.f2 0 3 with
   | false=>rfl
   | true =>
    rw [cond_true,Bool.true_and]
    by_cases q:t.f4.length≤4
    ·rw [decide_eq_false (by omega),cond_false,decide_eq_true q,if_pos (by omega),EG t.f0 t.f4 h4 t.f4 0 t.f3 rfl,if_pos rfl,Bool.true_and]
     cases asc t.f0 t.f4 none<;>rfl
    ·rw [decide_eq_true (by omega),decide_eq_false q];rfl
theorem AK (ts:List GTask) (i:Int) (h:an.sm ts) (hi:0≤i∧i<(ts.length:Int)):lX ts i=some (km ts i):=by
 obtain ⟨t,hg,hm⟩:=u5 hi
 have ht:=h.2 t hm
 have h4:t.f4.length≤1050000:=ht.2.2.1
 unfold lX km gH
 rw [hg,Option.bind_some,if_pos (Bf ht)]
 simp only
 cases c7 t.f0 with
 | false=>rfl
 | true =>
  have e1:(ap ts t.f0 != i) = !(ap ts t.f0==i):=rfl
  have e:(bw t.f1 != 0) = !(bw t.f1==0):=rfl
  rw [cond_true,Bool.true_and,if_pos h.1,e1,e]
  cases ap ts t.f0==i with
  | false=>rfl
  | true =>
   rw [Bool.not_true,cond_false,Bool.true_and]
   cases bw t.f1==0 with
   | true=>rfl
   | false =>
    rw [cond_false,Bool.not_false,Bool.true_and]
    cases aB t.f2 0 3 with
    | false=>rfl
    | true =>
     rw [cond_true,Bool.true_and,if_pos (by omega),EH ts h.1 t.f0 t.f4 h4 t.f4 0 t.f3 rfl,if_pos rfl]
     cases (asc t.f0 t.f4 none&&t.f4.all fun n=>decide (0≤ap ts n))<;>rfl
theorem uH (ts:List GTask) (h4:ts.length≤4) (i:Int) (t:GTask):gH ts i t=(mb t&&((ap ts t.f0==i)&&t.f4.all fun n=>decide (0≤ap ts n))):=by
 unfold gH mb
 by_cases q:asc t.f0 t.f4 none=true∧(t.f4.all fun n=>decide (0≤ap ts n))=true
 ·have hl:t.f4.length≤4:=by
   have:=Bg (l:=t.f4.map tx) (m:=ts.map fun u=>tx u.f0) (vG t.f0 t.f4 none q.1).1 (fun x hx=>by
    obtain ⟨n,hn,rfl⟩:=List.mem_map.1 hx
    have:=List.all_eq_true.1 q.2 n hn
    obtain ⟨u,hu,e⟩:=AJ (of_decide_eq_true this)
    exact List.mem_map.2 ⟨u,hu,e⟩)
   simp only [List.length_map] at this
   omega
  rw [decide_eq_true hl,q.1,q.2]
  cases c7 t.f0<;>cases ap ts t.f0==i<;>cases bw t.f1 != 0<;>cases aB t.f2 0 3<;>rfl
 ·have hf:(asc t.f0 t.f4 none&&t.f4.all fun n=>decide (0≤ap ts n))=false:=by
   rw [← Bool.not_eq_true,Bool.and_eq_true];exact q
  rw [hf]
  revert hf
  generalize (t.f4.all fun n=>decide (0≤ap ts n))=B
  generalize asc t.f0 t.f4 none=A
  generalize decide (t.f4.length≤4)=C
  intro hf
  cases A<;>cases B<;>simp at hf<;>cases c7 t.f0<;>cases ap ts t.f0==i<;>cases bw t.f1 != 0<;>cases aB t.f2 0 3<;>cases C<;>rfl
theorem mw (x0:GTask) (h:an.sm x0):Does E 47 [.agg (GTask.t .far x0)] [(false,[tB (mb x0)])]:=by
 exact B2 x0 _ (ED x0 h)
theorem r9 {q0:Kd} (x0:List GTask) (x1:Int) (h:an.sm x0) (hi:0≤x1∧x1<(x0.length:Int)):Does E 58 [.one (.s .far () 5 (x0.map (GTask.t q0))),.one (tI x1)] [(false,[tB (km x0 x1)])]:=by
 exact AF x0 x1 _ (AK x0 x1 h hi)
noncomputable def mD (x0:ByteArray):Option (Bool) :=
  cond ((am x0).2)
   (if an.sm ((am x0).1) then some (((aR ((am x0).1)).1).toList==x0.toList) else none)
   (if an.sm ((am x0).1) then some (false) else none)
theorem B1 (x0:ByteArray):Ans (mD x0) (fun r=>Does E 45 [.one (tS x0)] [(false,[tB r])]):=by
 unfold mD
 apply Ie<;>intro h0
 ·refine Ig (fun h1 => ?_)
  exact Ib (DP Tryz.f45 [.ret [(true,GCron.t .own ((am x0).1)),(false,[tB true])],.ret [(false,[tS ((aR ((am x0).1)).1)]),(false,[tB ((aR ((am x0).1)).2)])]] (AD (ny x0 h0)<|AD (qr ((am x0).1) h1)<|AN))
 ·refine Ig (fun h1 => ?_)
  exact Ib (DP Tryz.f45 [.ret [(true,GCron.t .own ((am x0).1)),(false,[tB false])],.ret [(false,[tS ((aR ((am x0).1)).1)]),(false,[tB ((aR ((am x0).1)).2)])]] (AD (ny x0 h0)<|AD (qr ((am x0).1) h1)<|AN))
noncomputable def gq (s:ByteArray):Bool:=(am s).2&&((aR (am s).1).1.toList==s.toList)
theorem DW (s:ByteArray):mD s=some (gq s):=by
 unfold mD gq
 simp only [yK s,if_true]
 cases (am s).2<;>rfl
theorem gp (x0:ByteArray):Does E 45 [.one (tS x0)] [(false,[tB (gq x0)])]:=by
 exact B1 x0 _ (DW x0)
inductive uy where
 | ret (v2:Bool)
 | x0 
def i8 (q0:Kd) (v1_0 v1_1:ByteArray) (v1_2 v1_3:Int) (v1_4:Bool) (v1_5:List GTask) (v7:Int):US:=stL 74 [(1,.box () [tS v1_0,tS v1_1,tI v1_2,tI v1_3,tB v1_4,.s .far () 5 (v1_5.map (GTask.t q0))]),(7,.one (tI v7))]
def mp (q0:Kd) (zv2:Bool):US:=stL 74 [(2,.one (tB zv2))]
def nh (q0:Kd) (v1_0 v1_1:ByteArray) (v1_2 v1_3:Int) (v1_4:Bool) (v1_5:List GTask):US:=stL 74 [(1,.box () [tS v1_0,tS v1_1,tI v1_2,tI v1_3,tB v1_4,.s .far () 5 (v1_5.map (GTask.t q0))])]
abbrev pK:US→Exit→US→Prop:=Round E 32 (au Tryz.f32 0)
def Cj {q0:Kd} (v1_0 v1_1:ByteArray) (v1_2 v1_3:Int) (v1_4:Bool) (v1_5:List GTask) (v7:Int):uy→Prop
 | .ret zv2=>Loops E 32 (au Tryz.f32 0) (i8 q0 v1_0 v1_1 v1_2 v1_3 v1_4 v1_5 v7) .ret (mp q0 zv2)
 | .x0=>Loops E 32 (au Tryz.f32 0) (i8 q0 v1_0 v1_1 v1_2 v1_3 v1_4 v1_5 v7) (.exit 0) (nh q0 v1_0 v1_1 v1_2 v1_3 v1_4 v1_5)
noncomputable def gB (v1_5:List GTask):List GTask→Nat→Bool→Option uy
 | [],i,v1_4=>some (.x0)
 | hd::rest,i,v1_4=>if an.sm v1_5 then if 0≤(i:Int)∧(i:Int)<(v1_5.length:Int) then cond (km v1_5 (i:Int))
  (gB v1_5 rest (i+1) v1_4)
  (some (.ret false)) else none else none
theorem Ci {q0:Kd} (v1_0 v1_1:ByteArray) (v1_2 v1_3:Int) (v1_5:List GTask) (rest:List GTask):∀ (i:Nat) (v1_4:Bool),(v1_5).drop i=rest→v1_5.length≤9223372036854775807→Ans (gB v1_5 rest i v1_4) (Cj (q0:=q0) v1_0 v1_1 v1_2 v1_3 v1_4 v1_5 (i:Int)):=by
 induction rest with
 | nil =>
  intro i v1_4 hE hl
  have hb:=bq hE
  unfold gB
  exact Ib (Id (show pK (i8 q0 v1_0 v1_1 v1_2 v1_3 v1_4 v1_5 (i:Int)) (.exit 0) (nh q0 v1_0 v1_1 v1_2 v1_3 v1_4 v1_5) from RP [.val (.int .i64 (v1_5.length:Int)),.b false] (ALn v1_5 (GTask.t q0)<|AC hb<|AN)) (by intro h;cases h))
 | cons hd rest ih =>
  intro i v1_4 hE hl
  have hb:=a8 hE
  have hw:=ba hE hl
  have hE2:=aG hE
  have hg:=bd hE
  unfold gB
  refine Ig (fun h1 => ?_)
  refine Ig (fun h2 => ?_)
  apply Ie<;>intro h3
  ·exact (ih (i+1) v1_4 hE2 hl).mono fun y hy=>by have r:pK (i8 q0 v1_0 v1_1 v1_2 v1_3 v1_4 v1_5 (i:Int)) .normal (i8 q0 v1_0 v1_1 v1_2 v1_3 v1_4 v1_5 (inc (i:Int))):=RP [.val (.int .i64 (v1_5.length:Int)),.b true,rT] (ALn v1_5 (GTask.t q0)<|AC hb<|AV (ψ:=fun k=>E.C k 58 [.one (.s .far () 5 (v1_5.map (GTask.t q0))),.one (tI (i:Int))]=some [(false,[tB true])]) (Ih (r9 v1_5 (i:Int) h1 h2) (by rw [h3]))<|AN);rw [hw] at r;cases y<;>exact Ic r hy
  ·exact Ib (Id (show pK (i8 q0 v1_0 v1_1 v1_2 v1_3 v1_4 v1_5 (i:Int)) .ret (mp q0 false) from RP [.val (.int .i64 (v1_5.length:Int)),.b true,rF] (ALn v1_5 (GTask.t q0)<|AC hb<|AV (ψ:=fun k=>E.C k 58 [.one (.s .far () 5 (v1_5.map (GTask.t q0))),.one (tI (i:Int))]=some [(false,[tB false])]) (Ih (r9 v1_5 (i:Int) h1 h2) (by rw [h3]))<|AN)) (by intro h;cases h))
noncomputable def nQ (x0:GDag):Option (Bool) :=
  cond ((am x0.f1).2)
   (if an.sm ((am x0.f1).1) then if x0.f0.size≤2000000 then cond (c7 x0.f0)
    (cond (!(((aR ((am x0.f1).1)).1).toList==x0.f1.toList))
     (some (false))
     (cond (aB x0.f3 (0:Int) (68374079:Int))
      (cond (aB x0.f2 (0:Int) x0.f3)
       (cond (aB (x0.f5.length:Int) (1:Int) (4:Int))
        (if x0.f5.length≤9223372036854775807 then (gB x0.f5 x0.f5 0 x0.f4).bind fun y=>match y with
         | .ret w0_2=>(some (w0_2))
         | .x0=>(if an.sm x0.f5 then if d7 x0.f5 then some (((jz x0.f5).length:Int)==(x0.f5.length:Int)) else none else none) else none)
        (some (false)))
       (some (false)))
      (some (false))))
    (some (false)) else none else none)
   (if an.sm ((am x0.f1).1) then if x0.f0.size≤2000000 then cond (c7 x0.f0)
    (some (false))
    (some (false)) else none else none)
theorem Dx {q0:Kd} (x0:GDag):Ans (nQ x0) (fun r=>Does E 32 [.agg (GDag.t .far q0 x0)] [(false,[tB r])]):=by
 unfold nQ
 apply Ie<;>intro f1
 ·refine Ig (fun f2 => ?_)
  refine Ig (fun f3 => ?_)
  apply Ie<;>intro f4
  ·apply Ie<;>intro h4
   ·exact Ib (DP Tryz.f32 [.ret [(true,GCron.t .own ((am x0.f1).1)),(false,[tB true])],.ret [(false,[tS ((aR ((am x0.f1).1)).1)]),(false,[tB ((aR ((am x0.f1).1)).2)])],rT,.b true] (AD (dA x0.f1 f1)<|AD (dB ((am x0.f1).1) f2)<|AD (Ij (ca x0.f0 f3) f4)<|AC h4<|AN))
   ·apply Ie<;>intro h5
    ·apply Ie<;>intro h6
     ·apply Ie<;>intro h7
      ·refine Ig (fun hl7 => ?_)
       refine If (fun y hy => ?_)
       replace hy:=Ci (q0:=q0) x0.f0 x0.f1 x0.f2 x0.f3 x0.f5 x0.f5 0 x0.f4 rfl hl7 y hy
       cases y with
       | ret w0_2 =>
        have h8:=hy
        exact Ib (DP Tryz.f32 [.ret [(true,GCron.t .own ((am x0.f1).1)),(false,[tB true])],.ret [(false,[tS ((aR ((am x0.f1).1)).1)]),(false,[tB ((aR ((am x0.f1).1)).2)])],rT,.b false,rT,rT,.val (.int .i64 (x0.f5.length:Int)),rT,.lp .ret (mp q0 w0_2)] (AD (dA x0.f1 f1)<|AD (dB ((am x0.f1).1) f2)<|AD (Ij (ca x0.f0 f3) f4)<|AC h4<|AD (Ij (bh x0.f3 (0:Int) (68374079:Int)) h5)<|AD (Ij (bh x0.f2 (0:Int) x0.f3) h6)<|ALn x0.f5 (GTask.t q0)<|AD (Ij (bh (x0.f5.length:Int) (1:Int) (4:Int)) h7)<|AL h8<|AN))
       | x0 =>
        have h8:=hy
        refine Ig (fun h9 => ?_)
        refine Ig (fun h10 => ?_)
        exact Ib (DP Tryz.f32 [.ret [(true,GCron.t .own ((am x0.f1).1)),(false,[tB true])],.ret [(false,[tS ((aR ((am x0.f1).1)).1)]),(false,[tB ((aR ((am x0.f1).1)).2)])],rT,.b false,rT,rT,.val (.int .i64 (x0.f5.length:Int)),rT,.lp (.exit 0) (nh q0 x0.f0 x0.f1 x0.f2 x0.f3 x0.f4 x0.f5),.ret [(false,[.s .own () 1 ((jz x0.f5).map etI)])],.val (.int .i64 ((jz x0.f5).length:Int)),.val (.int .i64 (x0.f5.length:Int))] (AD (dA x0.f1 f1)<|AD (dB ((am x0.f1).1) f2)<|AD (Ij (ca x0.f0 f3) f4)<|AC h4<|AD (Ij (bh x0.f3 (0:Int) (68374079:Int)) h5)<|AD (Ij (bh x0.f2 (0:Int) x0.f3) h6)<|ALn x0.f5 (GTask.t q0)<|AD (Ij (bh (x0.f5.length:Int) (1:Int) (4:Int)) h7)<|AL h8<|AV (ψ:=fun k=>E.C k 37 [.one (.s .far () 5 (x0.f5.map (GTask.t q0)))]=some [(false,[.s .own () 1 ((jz x0.f5).map etI)])]) (xq x0.f5 h9 h10)<|ALn (jz x0.f5) etI<|ALn x0.f5 (GTask.t q0)<|AN))
      ·exact Ib (DP Tryz.f32 [.ret [(true,GCron.t .own ((am x0.f1).1)),(false,[tB true])],.ret [(false,[tS ((aR ((am x0.f1).1)).1)]),(false,[tB ((aR ((am x0.f1).1)).2)])],rT,.b false,rT,rT,.val (.int .i64 (x0.f5.length:Int)),rF] (AD (dA x0.f1 f1)<|AD (dB ((am x0.f1).1) f2)<|AD (Ij (ca x0.f0 f3) f4)<|AC h4<|AD (Ij (bh x0.f3 (0:Int) (68374079:Int)) h5)<|AD (Ij (bh x0.f2 (0:Int) x0.f3) h6)<|ALn x0.f5 (GTask.t q0)<|AD (Ij (bh (x0.f5.length:Int) (1:Int) (4:Int)) h7)<|AN))
     ·exact Ib (DP Tryz.f32 [.ret [(true,GCron.t .own ((am x0.f1).1)),(false,[tB true])],.ret [(false,[tS ((aR ((am x0.f1).1)).1)]),(false,[tB ((aR ((am x0.f1).1)).2)])],rT,.b false,rT,rF] (AD (dA x0.f1 f1)<|AD (dB ((am x0.f1).1) f2)<|AD (Ij (ca x0.f0 f3) f4)<|AC h4<|AD (Ij (bh x0.f3 (0:Int) (68374079:Int)) h5)<|AD (Ij (bh x0.f2 (0:Int) x0.f3) h6)<|AN))
    ·exact Ib (DP Tryz.f32 [.ret [(true,GCron.t .own ((am x0.f1).1)),(false,[tB true])],.ret [(false,[tS ((aR ((am x0.f1).1)).1)]),(false,[tB ((aR ((am x0.f1).1)).2)])],rT,.b false,rF] (AD (dA x0.f1 f1)<|AD (dB ((am x0.f1).1) f2)<|AD (Ij (ca x0.f0 f3) f4)<|AC h4<|AD (Ij (bh x0.f3 (0:Int) (68374079:Int)) h5)<|AN))
  ·exact Ib (DP Tryz.f32 [.ret [(true,GCron.t .own ((am x0.f1).1)),(false,[tB ((am x0.f1).2)])],.ret [(false,[tS ((aR ((am x0.f1).1)).1)]),(false,[tB ((aR ((am x0.f1).1)).2)])],rF] (AD (md x0.f1)<|AD (dB ((am x0.f1).1) f2)<|AD (Ij (ca x0.f0 f3) f4)<|AN))
 ·refine Ig (fun f5 => ?_)
  refine Ig (fun f6 => ?_)
  apply Ie<;>intro f7
  ·exact Ib (DP Tryz.f32 [.ret [(true,GCron.t .own ((am x0.f1).1)),(false,[tB false])],.ret [(false,[tS ((aR ((am x0.f1).1)).1)]),(false,[tB ((aR ((am x0.f1).1)).2)])],rT] (AD (dA x0.f1 f1)<|AD (dB ((am x0.f1).1) f5)<|AD (Ij (ca x0.f0 f6) f7)<|AN))
  ·exact Ib (DP Tryz.f32 [.ret [(true,GCron.t .own ((am x0.f1).1)),(false,[tB ((am x0.f1).2)])],.ret [(false,[tS ((aR ((am x0.f1).1)).1)]),(false,[tB ((aR ((am x0.f1).1)).2)])],rF] (AD (md x0.f1)<|AD (dB ((am x0.f1).1) f5)<|AD (Ij (ca x0.f0 f6) f7)<|AN))
inductive ue where
 | ret (v2:Bool)
 | x2 
def iR (q0:Kd) (v1_0 v1_1:ByteArray) (v1_2 v1_3:Int) (v1_4:Bool) (v1_5 v40:List GTask) (v41 v42:Int) (v59:List ByteArray) (v60 v61:Int):US:=stL 78 [(1,.box () [tS v1_0,tS v1_1,tI v1_2,tI v1_3,tB v1_4,.s .far () 5 (v1_5.map (GTask.t q0))]),(40,.one (.s .far () 5 (v40.map (GTask.t q0)))),(41,.one (tI v41)),(42,.one (tI v42)),(59,.one (.s .far () 1 (v59.map etS))),(60,.one (tI v60)),(61,.one (tI v61))]
def mg (q0:Kd) (zv2:Bool):US:=stL 78 [(2,.one (tB zv2))]
def m6 (q0:Kd) (v1_0 v1_1:ByteArray) (v1_2 v1_3:Int) (v1_4:Bool) (v1_5 v40:List GTask) (v41 v42:Int):US:=stL 78 [(1,.box () [tS v1_0,tS v1_1,tI v1_2,tI v1_3,tB v1_4,.s .far () 5 (v1_5.map (GTask.t q0))]),(40,.one (.s .far () 5 (v40.map (GTask.t q0)))),(41,.one (tI v41)),(42,.one (tI v42))]
abbrev pr:US→Exit→US→Prop:=Round E 28 (au Tryz.f28 1)
def BW {q0:Kd} (v1_0 v1_1:ByteArray) (v1_2 v1_3:Int) (v1_4:Bool) (v1_5 v40:List GTask) (v41 v42:Int) (v59:List ByteArray) (v60 v61:Int):ue→Prop
 | .ret zv2=>Loops E 28 (au Tryz.f28 1) (iR q0 v1_0 v1_1 v1_2 v1_3 v1_4 v1_5 v40 v41 v42 v59 v60 v61) .ret (mg q0 zv2)
 | .x2=>Loops E 28 (au Tryz.f28 1) (iR q0 v1_0 v1_1 v1_2 v1_3 v1_4 v1_5 v40 v41 v42 v59 v60 v61) (.exit 2) (m6 q0 v1_0 v1_1 v1_2 v1_3 v1_4 v1_5 v40 v41 v42)
noncomputable def gt (v1_0 v1_1:ByteArray) (v1_2 v1_3:Int) (v1_5:List GTask):List ByteArray→Nat→Bool→Option ue
 | [],i,v1_4=>some (.x2)
 | hd::rest,i,v1_4=>if (GDag.mk v1_0 v1_1 v1_2 v1_3 v1_4 v1_5).f5.length≤1050000 then cond (decide ((bU (GDag.mk v1_0 v1_1 v1_2 v1_3 v1_4 v1_5) hd)<(0:Int)))
  (some (.ret false))
  (gt v1_0 v1_1 v1_2 v1_3 v1_5 rest (i+1) v1_4) else none
theorem BU {q0:Kd} (v1_0 v1_1:ByteArray) (v1_2 v1_3:Int) (v1_5 v40:List GTask) (v41 v42:Int) (v59:List ByteArray) (rest:List ByteArray):∀ (i:Nat) (v1_4:Bool),(v59).drop i=rest→v59.length≤9223372036854775807→Ans (gt v1_0 v1_1 v1_2 v1_3 v1_5 rest i v1_4) (BW (q0:=q0) v1_0 v1_1 v1_2 v1_3 v1_4 v1_5 v40 v41 v42 v59 (v59.length:Int) (i:Int)):=by
 induction rest with
 | nil =>
  intro i v1_4 hE hl
  have hb:=bq hE
  unfold gt
  exact Ib (Id (show pr (iR q0 v1_0 v1_1 v1_2 v1_3 v1_4 v1_5 v40 v41 v42 v59 (v59.length:Int) (i:Int)) (.exit 2) (m6 q0 v1_0 v1_1 v1_2 v1_3 v1_4 v1_5 v40 v41 v42) from RP [.b false] (AC hb<|AN)) (by intro h;cases h))
 | cons hd rest ih =>
  intro i v1_4 hE hl
  have hb:=a8 hE
  have hw:=ba hE hl
  have hE2:=aG hE
  have hg:=bd hE
  unfold gt
  refine Ig (fun h2 => ?_)
  apply Ie<;>intro h3
  ·exact Ib (Id (show pr (iR q0 v1_0 v1_1 v1_2 v1_3 v1_4 v1_5 v40 v41 v42 v59 (v59.length:Int) (i:Int)) .ret (mg q0 false) from RP [.b true,.row (etS hd),.ret [(false,[tI (bU (GDag.mk v1_0 v1_1 v1_2 v1_3 v1_4 v1_5) hd)])],.b true] (AC hb<|AR etS hg<|AV (ψ:=fun k=>E.C k 48 [.agg (GDag.t .far q0 (GDag.mk v1_0 v1_1 v1_2 v1_3 v1_4 v1_5)),.one (tS hd)]=some [(false,[tI (bU (GDag.mk v1_0 v1_1 v1_2 v1_3 v1_4 v1_5) hd)])]) (eE (GDag.mk v1_0 v1_1 v1_2 v1_3 v1_4 v1_5) hd h2)<|AC h3<|AN)) (by intro h;cases h))
  ·exact (ih (i+1) v1_4 hE2 hl).mono fun y hy=>by have r:pr (iR q0 v1_0 v1_1 v1_2 v1_3 v1_4 v1_5 v40 v41 v42 v59 (v59.length:Int) (i:Int)) .normal (iR q0 v1_0 v1_1 v1_2 v1_3 v1_4 v1_5 v40 v41 v42 v59 (v59.length:Int) (inc (i:Int))):=RP [.b true,.row (etS hd),.ret [(false,[tI (bU (GDag.mk v1_0 v1_1 v1_2 v1_3 v1_4 v1_5) hd)])],.b false] (AC hb<|AR etS hg<|AV (ψ:=fun k=>E.C k 48 [.agg (GDag.t .far q0 (GDag.mk v1_0 v1_1 v1_2 v1_3 v1_4 v1_5)),.one (tS hd)]=some [(false,[tI (bU (GDag.mk v1_0 v1_1 v1_2 v1_3 v1_4 v1_5) hd)])]) (eE (GDag.mk v1_0 v1_1 v1_2 v1_3 v1_4 v1_5) hd h2)<|AC h3<|AN);rw [hw] at r;cases y<;>exact Ic r hy
inductive ud where
 | ret (v2:Bool)
 | x0 
def fy (q0:Kd) (v1_0 v1_1:ByteArray) (v1_2 v1_3:Int) (v1_4:Bool) (v1_5 v40:List GTask) (v41 v42:Int):US:=stL 78 [(1,.box () [tS v1_0,tS v1_1,tI v1_2,tI v1_3,tB v1_4,.s .far () 5 (v1_5.map (GTask.t q0))]),(40,.one (.s .far () 5 (v40.map (GTask.t q0)))),(41,.one (tI v41)),(42,.one (tI v42))]
def gK (q0:Kd) (zv2:Bool):US:=stL 78 [(2,.one (tB zv2))]
def m5 (q0:Kd) (v1_0 v1_1:ByteArray) (v1_2 v1_3:Int) (v1_4:Bool) (v1_5:List GTask):US:=stL 78 [(1,.box () [tS v1_0,tS v1_1,tI v1_2,tI v1_3,tB v1_4,.s .far () 5 (v1_5.map (GTask.t q0))])]
abbrev kB:US→Exit→US→Prop:=Round E 28 (au Tryz.f28 0)
def BV {q0:Kd} (v1_0 v1_1:ByteArray) (v1_2 v1_3:Int) (v1_4:Bool) (v1_5 v40:List GTask) (v41 v42:Int):ud→Prop
 | .ret zv2=>Loops E 28 (au Tryz.f28 0) (fy q0 v1_0 v1_1 v1_2 v1_3 v1_4 v1_5 v40 v41 v42) .ret (gK q0 zv2)
 | .x0=>Loops E 28 (au Tryz.f28 0) (fy q0 v1_0 v1_1 v1_2 v1_3 v1_4 v1_5 v40 v41 v42) (.exit 0) (m5 q0 v1_0 v1_1 v1_2 v1_3 v1_4 v1_5)
noncomputable def gr (v1_0 v1_1:ByteArray) (v1_2 v1_3:Int) (v1_5:List GTask):List GTask→Nat→Bool→Option ud
 | [],i,v1_4=>some (.x0)
 | hd::rest,i,v1_4=>if an.sm hd then cond (mb hd)
  (if (GDag.mk v1_0 v1_1 v1_2 v1_3 v1_4 v1_5).f5.length≤1050000 then cond ((bU (GDag.mk v1_0 v1_1 v1_2 v1_3 v1_4 v1_5) hd.f0) != (i:Int))
   (some (.ret false))
   (if hd.f4.length≤9223372036854775807 then (gt v1_0 v1_1 v1_2 v1_3 v1_5 hd.f4 0 v1_4).bind fun y=>match y with
    | .ret w0_2=>(some (.ret w0_2))
    | .x2=>(gr v1_0 v1_1 v1_2 v1_3 v1_5 rest (i+1) v1_4) else none) else none)
  (some (.ret false)) else none
theorem BT {q0:Kd} (v1_0 v1_1:ByteArray) (v1_2 v1_3:Int) (v1_5 v40:List GTask) (rest:List GTask):∀ (i:Nat) (v1_4:Bool),(v40).drop i=rest→v40.length≤9223372036854775807→Ans (gr v1_0 v1_1 v1_2 v1_3 v1_5 rest i v1_4) (BV (q0:=q0) v1_0 v1_1 v1_2 v1_3 v1_4 v1_5 v40 (v40.length:Int) (i:Int)):=by
 induction rest with
 | nil =>
  intro i v1_4 hE hl
  have hb:=bq hE
  unfold gr
  exact Ib (Id (show kB (fy q0 v1_0 v1_1 v1_2 v1_3 v1_4 v1_5 v40 (v40.length:Int) (i:Int)) (.exit 0) (m5 q0 v1_0 v1_1 v1_2 v1_3 v1_4 v1_5) from RP [.b false] (AC hb<|AN)) (by intro h;cases h))
 | cons hd rest ih =>
  intro i v1_4 hE hl
  have hb:=a8 hE
  have hw:=ba hE hl
  have hE2:=aG hE
  have hg:=bd hE
  unfold gr
  refine Ig (fun h2 => ?_)
  apply Ie<;>intro h3
  ·refine Ig (fun h4 => ?_)
   apply Ie<;>intro h5
   ·exact Ib (Id (show kB (fy q0 v1_0 v1_1 v1_2 v1_3 v1_4 v1_5 v40 (v40.length:Int) (i:Int)) .ret (gK q0 false) from RP [.b true,.row ((GTask.t q0) hd),rT,.ret [(false,[tI (bU (GDag.mk v1_0 v1_1 v1_2 v1_3 v1_4 v1_5) hd.f0)])],.b true] (AC hb<|AR (GTask.t q0) hg<|AD (Ij (mw hd h2) h3)<|AV (ψ:=fun k=>E.C k 48 [.agg (GDag.t .far q0 (GDag.mk v1_0 v1_1 v1_2 v1_3 v1_4 v1_5)),.one (tS hd.f0)]=some [(false,[tI (bU (GDag.mk v1_0 v1_1 v1_2 v1_3 v1_4 v1_5) hd.f0)])]) (eE (GDag.mk v1_0 v1_1 v1_2 v1_3 v1_4 v1_5) hd.f0 h4)<|AC h5<|AN)) (by intro h;cases h))
   ·refine Ig (fun hl4 => ?_)
    refine If (fun y hy => ?_)
    replace hy:=BU (q0:=q0) v1_0 v1_1 v1_2 v1_3 v1_5 v40 (v40.length:Int) (i:Int) hd.f4 hd.f4 0 v1_4 rfl hl4 y hy
    cases y with
    | ret w0_2 =>
     have h6:=hy
     exact Ib (Id (show kB (fy q0 v1_0 v1_1 v1_2 v1_3 v1_4 v1_5 v40 (v40.length:Int) (i:Int)) .ret (gK q0 w0_2) from RP [.b true,.row ((GTask.t q0) hd),rT,.ret [(false,[tI (bU (GDag.mk v1_0 v1_1 v1_2 v1_3 v1_4 v1_5) hd.f0)])],.b false,.val (.int .i64 (hd.f4.length:Int)),.lp .ret (mg q0 w0_2)] (AC hb<|AR (GTask.t q0) hg<|AD (Ij (mw hd h2) h3)<|AV (ψ:=fun k=>E.C k 48 [.agg (GDag.t .far q0 (GDag.mk v1_0 v1_1 v1_2 v1_3 v1_4 v1_5)),.one (tS hd.f0)]=some [(false,[tI (bU (GDag.mk v1_0 v1_1 v1_2 v1_3 v1_4 v1_5) hd.f0)])]) (eE (GDag.mk v1_0 v1_1 v1_2 v1_3 v1_4 v1_5) hd.f0 h4)<|AC h5<|ALn hd.f4 etS<|AL h6<|AN)) (by intro h;cases h))
    | x2 =>
     have h6:=hy
     exact (ih (i+1) v1_4 hE2 hl).mono fun y hy=>by have r:kB (fy q0 v1_0 v1_1 v1_2 v1_3 v1_4 v1_5 v40 (v40.length:Int) (i:Int)) .normal (fy q0 v1_0 v1_1 v1_2 v1_3 v1_4 v1_5 v40 (v40.length:Int) (inc (i:Int))):=RP [.b true,.row ((GTask.t q0) hd),rT,.ret [(false,[tI (bU (GDag.mk v1_0 v1_1 v1_2 v1_3 v1_4 v1_5) hd.f0)])],.b false,.val (.int .i64 (hd.f4.length:Int)),.lp (.exit 2) (m6 q0 v1_0 v1_1 v1_2 v1_3 v1_4 v1_5 v40 (v40.length:Int) (i:Int))] (AC hb<|AR (GTask.t q0) hg<|AD (Ij (mw hd h2) h3)<|AV (ψ:=fun k=>E.C k 48 [.agg (GDag.t .far q0 (GDag.mk v1_0 v1_1 v1_2 v1_3 v1_4 v1_5)),.one (tS hd.f0)]=some [(false,[tI (bU (GDag.mk v1_0 v1_1 v1_2 v1_3 v1_4 v1_5) hd.f0)])]) (eE (GDag.mk v1_0 v1_1 v1_2 v1_3 v1_4 v1_5) hd.f0 h4)<|AC h5<|ALn hd.f4 etS<|AL h6<|AN);rw [hw] at r;cases y<;>exact Ic r hy
  ·exact Ib (Id (show kB (fy q0 v1_0 v1_1 v1_2 v1_3 v1_4 v1_5 v40 (v40.length:Int) (i:Int)) .ret (gK q0 false) from RP [.b true,.row ((GTask.t q0) hd),rF] (AC hb<|AR (GTask.t q0) hg<|AD (Ij (mw hd h2) h3)<|AN)) (by intro h;cases h))
noncomputable def nH (x0:GDag):Option (Bool) :=
  if x0.f0.size≤2000000 then cond (c7 x0.f0)
   (cond (gq x0.f1)
    (cond (decide (x0.f2<(0:Int)))
     (some (false))
     (cond (decide (x0.f2>x0.f3))
      (some (false))
      (cond (decide (x0.f3>(68374079:Int)))
       (some (false))
       (cond (aB (x0.f5.length:Int) (1:Int) (4:Int))
        (if x0.f5.length≤9223372036854775807 then (gr x0.f0 x0.f1 x0.f2 x0.f3 x0.f5 x0.f5 0 x0.f4).bind fun y=>match y with
         | .ret w0_2=>(some (w0_2))
         | .x0=>(if an.sm x0 then if d7 x0.f5 then some (((ls x0).length:Int)==(x0.f5.length:Int)) else none else none) else none)
        (some (false))))))
    (some (false)))
   (some (false)) else none
theorem C1 {q0:Kd} (x0:GDag):Ans (nH x0) (fun r=>Does E 28 [.agg (GDag.t .far q0 x0)] [(false,[tB r])]):=by
 unfold nH
 refine Ig (fun h0 => ?_)
 apply Ie<;>intro h1
 ·apply Ie<;>intro h2
  ·apply Ie<;>intro h3
   ·exact Ib (DP Tryz.f28 [rT,rT,.b true] (AD (Ij (ct x0.f0 h0) h1)<|AD (Ij (gp x0.f1) h2)<|AC h3<|AN))
   ·apply Ie<;>intro h4
    ·exact Ib (DP Tryz.f28 [rT,rT,.b false,.b true] (AD (Ij (ct x0.f0 h0) h1)<|AD (Ij (gp x0.f1) h2)<|AC h3<|AC h4<|AN))
    ·apply Ie<;>intro h5
     ·exact Ib (DP Tryz.f28 [rT,rT,.b false,.b false,.b true] (AD (Ij (ct x0.f0 h0) h1)<|AD (Ij (gp x0.f1) h2)<|AC h3<|AC h4<|AC h5<|AN))
     ·apply Ie<;>intro h6
      ·refine Ig (fun hl7 => ?_)
       refine If (fun y hy => ?_)
       replace hy:=BT (q0:=q0) x0.f0 x0.f1 x0.f2 x0.f3 x0.f5 x0.f5 x0.f5 0 x0.f4 rfl hl7 y hy
       cases y with
       | ret w0_2 =>
        have h7:=hy
        exact Ib (DP Tryz.f28 [rT,rT,.b false,.b false,.b false,.val (.int .i64 (x0.f5.length:Int)),rT,.val (.int .i64 (x0.f5.length:Int)),.lp .ret (gK q0 w0_2)] (AD (Ij (ct x0.f0 h0) h1)<|AD (Ij (gp x0.f1) h2)<|AC h3<|AC h4<|AC h5<|ALn x0.f5 (GTask.t q0)<|AD (Ij (cC (x0.f5.length:Int) (1:Int) (4:Int)) h6)<|ALn x0.f5 (GTask.t q0)<|AL h7<|AN))
       | x0 =>
        have h7:=hy
        refine Ig (fun h8 => ?_)
        refine Ig (fun h9 => ?_)
        exact Ib (DP Tryz.f28 [rT,rT,.b false,.b false,.b false,.val (.int .i64 (x0.f5.length:Int)),rT,.val (.int .i64 (x0.f5.length:Int)),.lp (.exit 0) (m5 q0 x0.f0 x0.f1 x0.f2 x0.f3 x0.f4 x0.f5),.ret [(false,[.s .own () 1 ((ls x0).map etI)])],.val (.int .i64 ((ls x0).length:Int)),.val (.int .i64 (x0.f5.length:Int))] (AD (Ij (ct x0.f0 h0) h1)<|AD (Ij (gp x0.f1) h2)<|AC h3<|AC h4<|AC h5<|ALn x0.f5 (GTask.t q0)<|AD (Ij (cC (x0.f5.length:Int) (1:Int) (4:Int)) h6)<|ALn x0.f5 (GTask.t q0)<|AL h7<|AV (ψ:=fun k=>E.C k 29 [.agg (GDag.t .far q0 x0)]=some [(false,[.s .own () 1 ((ls x0).map etI)])]) (zE x0 h8 h9)<|ALn (ls x0) etI<|ALn x0.f5 (GTask.t q0)<|AN))
      ·exact Ib (DP Tryz.f28 [rT,rT,.b false,.b false,.b false,.val (.int .i64 (x0.f5.length:Int)),rF] (AD (Ij (ct x0.f0 h0) h1)<|AD (Ij (gp x0.f1) h2)<|AC h3<|AC h4<|AC h5<|ALn x0.f5 (GTask.t q0)<|AD (Ij (cC (x0.f5.length:Int) (1:Int) (4:Int)) h6)<|AN))
  ·exact Ib (DP Tryz.f28 [rT,rF] (AD (Ij (ct x0.f0 h0) h1)<|AD (Ij (gp x0.f1) h2)<|AN))
 ·exact Ib (DP Tryz.f28 [rF] (AD (Ij (ct x0.f0 h0) h1)<|AN))
noncomputable def dt (ts:List GTask):List GTask→Nat→Bool
 | [],_=>true
 | t::r,i=>gH ts (i:Int) t&&dt ts r (i+1)
noncomputable def fu (d:GDag):Bool :=
 c7 d.f0&&(gq d.f1&&(aB d.f3 0 68374079&&(aB d.f2 0 d.f3&&(aB (d.f5.length:Int) 1 4&&(dt d.f5 d.f5 0&&((jz d.f5).length:Int)==(d.f5.length:Int))))))
theorem pF (ts:List GTask):∀ (rest:List GTask) (i:Nat),ts.drop i=rest→dt ts rest i=true→∀ (k:Nat) (t:GTask),i≤k→ts[k]?=some t→gH ts (k:Int) t=true
 | [],i,h,_,k,t,hk,hg=>by
  have:ts.length≤i:=List.drop_eq_nil_iff.1 h
  rw [List.getElem?_eq_none (by omega)] at hg;cases hg
 | x::rest,i,h,hr,k,t,hk,hg=>by
  unfold dt at hr
  rw [Bool.and_eq_true] at hr
  by_cases e:k=i
  ·subst e
   have:ts[k]?=some x:=by rw [← List.head?_drop,h];rfl
   rw [this] at hg
   cases hg
   exact hr.1
  ·exact pF ts rest (i+1) (aG h) hr.2 k t (by omega) hg
theorem pq {ts:List GTask} (h4:ts.length≤4) (h:dt ts ts 0=true):d7 ts:=by
 refine ⟨h4,fun i t hg => ?_⟩
 have:=pF ts ts 0 rfl h i t (Nat.zero_le _) hg
 unfold gH at this
 simp only [Bool.and_eq_true,beq_iff_eq] at this
 exact this.2.1
theorem CF (ts:List GTask) (hs:an.sm ts):∀ (rest:List GTask) (i:Nat) (z:Bool),ts.drop i=rest→gB ts rest i z=some (cond (dt ts rest i) .x0 (.ret false))
 | [],i,z,_=>rfl
 | x::rest,i,z,h=>by
  have hi:=m4 h
  have hg:=bd h
  have e:km ts (i:Int)=gH ts (i:Int) x:=by unfold km;rw [hg]
  unfold gB dt
  rw [CF ts hs rest (i+1) z (aG h),if_pos hs,if_pos (by omega),e]
  cases gH ts (i:Int) x<;>rfl
theorem FW (d:GDag) (h:an.sm d):nQ d=some (fu d):=by
 have hs:an.sm d.f5:=h.2.2
 have hn:d.f0.size≤2000000:=by have:d.f0.size≤1050000:=h.1;omega
 unfold nQ fu gq
 simp only [hn,yK,if_true]
 cases (am d.f1).2 with
 | false=>cases c7 d.f0<;>rfl
 | true =>
  rw [cond_true]
  cases c7 d.f0 with
  | false=>rfl
  | true =>
   rw [cond_true,Bool.true_and,Bool.true_and]
   cases (aR (am d.f1).1).1.toList==d.f1.toList with
   | false=>rfl
   | true =>
    rw [Bool.not_true,cond_false,Bool.true_and]
    cases aB d.f3 0 68374079 with
    | false=>rfl
    | true =>
     rw [cond_true,Bool.true_and]
     cases aB d.f2 0 d.f3 with
     | false=>rfl
     | true =>
      rw [cond_true,Bool.true_and]
      cases q:aB (d.f5.length:Int) 1 4 with
      | false=>rfl
      | true =>
       have h4:d.f5.length≤4:=by unfold aB at q;simp at q;omega
       rw [cond_true,Bool.true_and,if_pos (by omega),CF d.f5 hs d.f5 0 d.f4 rfl]
       cases w:dt d.f5 d.f5 0 with
       | false=>rfl
       | true =>
        rw [cond_true,Option.bind_some,Bool.true_and]
        simp only
        rw [if_pos hs,if_pos (pq h4 w)]
theorem CE (a b:ByteArray) (c e:Int) (ts:List GTask) (ht:ts.length≤1050000):∀ (l:List ByteArray) (i:Nat) (z:Bool),gt a b c e ts l i z=some (cond (l.all fun n=>decide (0≤ap ts n)) .x2 (.ret false))
 | [],i,z=>rfl
 | n::l,i,z=>by
  unfold gt
  rw [if_pos (show (GDag.mk a b c e z ts).f5.length≤1050000 from ht),CE a b c e ts ht l (i+1) z,List.all_cons]
  show cond (decide (ap ts n<0)) _ _=_
  by_cases w:ap ts n<0
  ·rw [decide_eq_true w,decide_eq_false (by omega:¬ 0≤ap ts n)];rfl
  ·rw [decide_eq_false w,decide_eq_true (by omega:0≤ap ts n)];rfl
theorem CD (a b:ByteArray) (c e:Int) (ts:List GTask) (hs:an.sm ts) (h4:ts.length≤4):∀ (l:List GTask) (i:Nat) (z:Bool),(∀ y∈l,an.sm y)→gr a b c e ts l i z=some (cond (dt ts l i) .x0 (.ret false))
 | [],i,z,_=>rfl
 | t::l,i,z,hl=>by
  have ht:=hl t (by simp)
  have hf:t.f4.length≤1050000:=ht.2.2.1
  unfold gr dt
  rw [if_pos ht,if_pos (show (GDag.mk a b c e z ts).f5.length≤1050000 from hs.1),if_pos (by omega),CE a b c e ts hs.1,CD a b c e ts hs h4 l (i+1) z (fun y hy=>hl y (by simp [hy])),uH ts h4]
  have e1:(bU (GDag.mk a b c e z ts) t.f0 != (i:Int)) = !(ap ts t.f0==(i:Int)):=rfl
  rw [e1]
  cases mb t<;>cases ap ts t.f0==(i:Int)<;>cases (t.f4.all fun n=>decide (0≤ap ts n))<;>cases dt ts l (i+1)<;>rfl
theorem FV (d:GDag) (h:an.sm d):nH d=some (fu d):=by
 have hs:an.sm d.f5:=h.2.2
 have hn:d.f0.size≤2000000:=by have:d.f0.size≤1050000:=h.1;omega
 unfold nH fu
 rw [if_pos hn]
 cases c7 d.f0 with
 | false=>rfl
 | true =>
  rw [cond_true,Bool.true_and]
  cases gq d.f1 with
  | false=>rfl
  | true =>
   rw [cond_true,Bool.true_and]
   by_cases w0:d.f2<0
   ·have:aB d.f2 0 d.f3=false:=by unfold aB;rw [decide_eq_false (by omega)];rfl
    rw [decide_eq_true w0,this,Bool.false_and,Bool.and_false];rfl
   ·rw [decide_eq_false w0,cond_false]
    by_cases w1:d.f2>d.f3
    ·have:aB d.f2 0 d.f3=false:=by unfold aB;rw [decide_eq_false (by omega:¬ d.f2≤d.f3),Bool.and_false]
     rw [decide_eq_true w1,this,Bool.false_and,Bool.and_false];rfl
    ·rw [decide_eq_false w1,cond_false]
     have e1:aB d.f2 0 d.f3=true:=by unfold aB;rw [decide_eq_true (by omega),decide_eq_true (by omega)];rfl
     by_cases w2:d.f3>68374079
     ·have:aB d.f3 0 68374079=false:=by unfold aB;rw [decide_eq_false (by omega:¬ d.f3≤68374079),Bool.and_false]
      rw [decide_eq_true w2,this,Bool.false_and];rfl
     ·have e2:aB d.f3 0 68374079=true:=by unfold aB;rw [decide_eq_true (by omega),decide_eq_true (by omega)];rfl
      rw [decide_eq_false w2,cond_false,e1,e2,Bool.true_and,Bool.true_and]
      cases q:aB (d.f5.length:Int) 1 4 with
      | false=>rfl
      | true =>
       have h4:d.f5.length≤4:=by unfold aB at q;simp at q;omega
       rw [cond_true,Bool.true_and,if_pos (by omega),CD d.f0 d.f1 d.f2 d.f3 d.f5 hs h4 d.f5 0 d.f4 hs.2]
       cases w:dt d.f5 d.f5 0 with
       | false=>rfl
       | true =>
        rw [cond_true,Option.bind_some,Bool.true_and]
        simp only
        rw [if_pos h,if_pos (pq h4 w)]
        rfl
theorem nB {q0:Kd} (x0:GDag) (h:an.sm x0):Does E 32 [.agg (GDag.t .far q0 x0)] [(false,[tB (fu x0)])]:=by
 exact Dx x0 _ (FW x0 h)
theorem nz {q0:Kd} (x0:GDag) (h:an.sm x0):Does E 28 [.agg (GDag.t .far q0 x0)] [(false,[tB (fu x0)])]:=by
 exact C1 x0 _ (FV x0 h)
end Go.Proofs.YtjfbofdmjihglaaGreatDoor.Am
