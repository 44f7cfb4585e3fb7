/- Plans. -/
import Derived.Test.YtgaiiephdjllkaaGreatDoorRules
namespace Go.Proofs.YtgaiiephdjllkaaGreatDoor.Am
open Go Go.Proofs Classical
set_option maxRecDepth 100000
set_option linter.unusedVariables false
set_option linter.unusedSimpArgs false
inductive uZ where
 | ret (v2:Bool)
 | x0 
def cL (v0:ByteArray) (v3:Int):US:=stL 46 [(0,.one (tS v0)),(3,.one (tI v3))]
def fC (zv2:Bool):US:=stL 46 [(2,.one (tB zv2))]
def nv  : US:=stL 46 []
abbrev fu:US→Exit→US→Prop:=Round E 45 (az Tryz.f45 0)
def Dp (v0:ByteArray) (v3:Int):uZ→Prop
 | .ret zv2=>Loops E 45 (az Tryz.f45 0) (cL v0 v3) .ret (fC zv2)
 | .x0=>Loops E 45 (az Tryz.f45 0) (cL v0 v3) (.exit 0) (nv)
noncomputable def eF  : List Int→Nat→Option uZ
 | [],i=>some (.x0)
 | hd::rest,i=>cond (decide (hd<(97:Int)))
  (cond (decide (hd<(48:Int)))
   (some (.ret false))
   (cond (decide (hd>(57:Int)))
    (some (.ret false))
    (eF rest (i+1))))
  (cond (decide (hd>(122:Int)))
   (cond (decide (hd<(48:Int)))
    (some (.ret false))
    (cond (decide (hd>(57:Int)))
     (some (.ret false))
     (eF rest (i+1))))
   (eF rest (i+1)))
theorem Do (v0:ByteArray) (rest:List Int):∀ (i:Nat) ,(bK v0).drop i=rest→v0.size≤9223372036854775807→Ans (eF rest i) (Dp v0 (i:Int)):=by
 induction rest with
 | nil =>
  intro i hE hl
  have hb:=ou hE
  unfold eF
  exact KB (KD (show fu (cL v0 (i:Int)) (.exit 0) (nv) from RP [.b false] (AC hb<|AN)) (by intro h;cases h))
 | cons hd rest ih =>
  intro i hE hl
  have hb:=m5 hE
  have hw:=m6 hE hl
  have hE2:=aJ hE
  have hp:=qj hE
  obtain rfl:=qi hE
  unfold eF
  apply KE<;>intro h2
  ·apply KE<;>intro h3
   ·exact KB (KD (show fu (cL v0 (i:Int)) .ret (fC false) from RP [.b true,.b true,.b true] (AC hb<|AC hp<|AC h2<|AC hp<|AC h3<|AN)) (by intro h;cases h))
   ·apply KE<;>intro h4
    ·exact KB (KD (show fu (cL v0 (i:Int)) .ret (fC false) from RP [.b true,.b true,.b false,.b true] (AC hb<|AC hp<|AC h2<|AC hp<|AC h3<|AC hp<|AC h4<|AN)) (by intro h;cases h))
    ·exact (ih (i+1) hE2 hl).mono fun y hy=>by have r:fu (cL v0 (i:Int)) .normal (cL v0 (inc (i:Int))):=RP [.b true,.b true,.b false,.b false] (AC hb<|AC hp<|AC h2<|AC hp<|AC h3<|AC hp<|AC h4<|AN);rw [hw] at r;cases y<;>exact KC r hy
  ·apply KE<;>intro h3
   ·apply KE<;>intro h4
    ·exact KB (KD (show fu (cL v0 (i:Int)) .ret (fC false) from RP [.b true,.b false,.b true,.b true] (AC hb<|AC hp<|AC h2<|AC hp<|AC h3<|AC hp<|AC h4<|AN)) (by intro h;cases h))
    ·apply KE<;>intro h5
     ·exact KB (KD (show fu (cL v0 (i:Int)) .ret (fC false) from RP [.b true,.b false,.b true,.b false,.b true] (AC hb<|AC hp<|AC h2<|AC hp<|AC h3<|AC hp<|AC h4<|AC hp<|AC h5<|AN)) (by intro h;cases h))
     ·exact (ih (i+1) hE2 hl).mono fun y hy=>by have r:fu (cL v0 (i:Int)) .normal (cL v0 (inc (i:Int))):=RP [.b true,.b false,.b true,.b false,.b false] (AC hb<|AC hp<|AC h2<|AC hp<|AC h3<|AC hp<|AC h4<|AC hp<|AC h5<|AN);rw [hw] at r;cases y<;>exact KC r hy
   ·exact (ih (i+1) hE2 hl).mono fun y hy=>by have r:fu (cL v0 (i:Int)) .normal (cL v0 (inc (i:Int))):=RP [.b true,.b false,.b false] (AC hb<|AC hp<|AC h2<|AC hp<|AC h3<|AN);rw [hw] at r;cases y<;>exact KC r hy
noncomputable def nT (x0:ByteArray):Option (Bool) :=
  cond (ag (x0.size:Int) (1:Int) (8:Int))
   (if 0≤(0:Int)∧(0:Int)<(x0.size:Int) then cond (decide ((fg x0 (0:Int))<(97:Int)))
    (some (false))
    (cond (decide ((fg x0 (0:Int))>(122:Int)))
     (some (false))
     (if x0.size≤9223372036854775807 then (eF (bK x0) 0).bind fun y=>match y with
      | .ret w0_2=>(some (w0_2))
      | .x0=>(some (true)) else none)) else none)
   (some (false))
theorem Fq (x0:ByteArray):Ans (nT x0) (fun r=>Does E 45 [.one (tS x0)] [(false,[tB r])]):=by
 unfold nT
 apply KE<;>intro h0
 ·refine KG (fun h1 => ?_)
  apply KE<;>intro h2
  ·exact KB (DP Tryz.f45 [rT,.b true] (AD (KJ (ah (x0.size:Int) (1:Int) (8:Int)) h0)<|AC h1<|AC h2<|AN))
  ·apply KE<;>intro h3
   ·exact KB (DP Tryz.f45 [rT,.b false,.b true] (AD (KJ (ah (x0.size:Int) (1:Int) (8:Int)) h0)<|AC h1<|AC h2<|AC h1<|AC h3<|AN))
   ·refine KG (fun hl4 => ?_)
    refine KF (fun y hy => ?_)
    replace hy:=Do x0 (bK x0) 0 rfl hl4 y hy
    cases y with
    | ret w0_2 =>
     have h4:=hy
     exact KB (DP Tryz.f45 [rT,.b false,.b false,.lp .ret (fC w0_2)] (AD (KJ (ah (x0.size:Int) (1:Int) (8:Int)) h0)<|AC h1<|AC h2<|AC h1<|AC h3<|AL h4<|AN))
    | x0 =>
     have h4:=hy
     exact KB (DP Tryz.f45 [rT,.b false,.b false,.lp (.exit 0) (nv)] (AD (KJ (ah (x0.size:Int) (1:Int) (8:Int)) h0)<|AC h1<|AC h2<|AC h1<|AC h3<|AL h4<|AN))
 ·exact KB (DP Tryz.f45 [rF] (AD (KJ (ah (x0.size:Int) (1:Int) (8:Int)) h0)<|AN))
inductive uJ where
 | ret (v2:Bool)
 | x0 
def cb (v0:ByteArray) (v3:Int):US:=stL 42 [(0,.one (tS v0)),(3,.one (tI v3))]
def dO (zv2:Bool):US:=stL 42 [(2,.one (tB zv2))]
def nj (v0:ByteArray):US:=stL 42 [(0,.one (tS v0))]
abbrev dS:US→Exit→US→Prop:=Round E 50 (az Tryz.f50 0)
def C2 (v0:ByteArray) (v3:Int):uJ→Prop
 | .ret zv2=>Loops E 50 (az Tryz.f50 0) (cb v0 v3) .ret (dO zv2)
 | .x0=>Loops E 50 (az Tryz.f50 0) (cb v0 v3) (.exit 0) (nj v0)
noncomputable def dT  : List Int→Nat→Option uJ
 | [],i=>some (.x0)
 | hd::rest,i=>cond (decide (hd≥(97:Int)))
  (cond (decide (hd≤(122:Int)))
   (dT rest (i+1))
   (cond ((i:Int)==(0:Int))
    (some (.ret false))
    (cond (decide (hd<(48:Int)))
     (some (.ret false))
     (cond (decide (hd>(57:Int)))
      (some (.ret false))
      (dT rest (i+1))))))
  (cond ((i:Int)==(0:Int))
   (some (.ret false))
   (cond (decide (hd<(48:Int)))
    (some (.ret false))
    (cond (decide (hd>(57:Int)))
     (some (.ret false))
     (dT rest (i+1)))))
theorem C1 (v0:ByteArray) (rest:List Int):∀ (i:Nat) ,(bK v0).drop i=rest→v0.size≤9223372036854775807→Ans (dT rest i) (C2 v0 (i:Int)):=by
 induction rest with
 | nil =>
  intro i hE hl
  have hb:=ou hE
  unfold dT
  exact KB (KD (show dS (cb v0 (i:Int)) (.exit 0) (nj v0) from RP [.b false] (AC hb<|AN)) (by intro h;cases h))
 | cons hd rest ih =>
  intro i hE hl
  have hb:=m5 hE
  have hw:=m6 hE hl
  have hE2:=aJ hE
  have hp:=qj hE
  obtain rfl:=qi hE
  unfold dT
  apply KE<;>intro h2
  ·apply KE<;>intro h3
   ·exact (ih (i+1) hE2 hl).mono fun y hy=>by have r:dS (cb v0 (i:Int)) .normal (cb v0 (inc (i:Int))):=RP [.b true,.b true,.b true] (AC hb<|AC hp<|AC h2<|AC hp<|AC h3<|AN);rw [hw] at r;cases y<;>exact KC r hy
   ·apply KE<;>intro h4
    ·exact KB (KD (show dS (cb v0 (i:Int)) .ret (dO false) from RP [.b true,.b true,.b false,.b true] (AC hb<|AC hp<|AC h2<|AC hp<|AC h3<|AC h4<|AN)) (by intro h;cases h))
    ·apply KE<;>intro h5
     ·exact KB (KD (show dS (cb v0 (i:Int)) .ret (dO false) from RP [.b true,.b true,.b false,.b false,.b true] (AC hb<|AC hp<|AC h2<|AC hp<|AC h3<|AC h4<|AC hp<|AC h5<|AN)) (by intro h;cases h))
     ·apply KE<;>intro h6
      ·exact KB (KD (show dS (cb v0 (i:Int)) .ret (dO false) from RP [.b true,.b true,.b false,.b false,.b false,.b true] (AC hb<|AC hp<|AC h2<|AC hp<|AC h3<|AC h4<|AC hp<|AC h5<|AC hp<|AC h6<|AN)) (by intro h;cases h))
      ·exact (ih (i+1) hE2 hl).mono fun y hy=>by have r:dS (cb v0 (i:Int)) .normal (cb v0 (inc (i:Int))):=RP [.b true,.b true,.b false,.b false,.b false,.b false] (AC hb<|AC hp<|AC h2<|AC hp<|AC h3<|AC h4<|AC hp<|AC h5<|AC hp<|AC h6<|AN);rw [hw] at r;cases y<;>exact KC r hy
  ·apply KE<;>intro h3
   ·exact KB (KD (show dS (cb v0 (i:Int)) .ret (dO false) from RP [.b true,.b false,.b true] (AC hb<|AC hp<|AC h2<|AC h3<|AN)) (by intro h;cases h))
   ·apply KE<;>intro h4
    ·exact KB (KD (show dS (cb v0 (i:Int)) .ret (dO false) from RP [.b true,.b false,.b false,.b true] (AC hb<|AC hp<|AC h2<|AC h3<|AC hp<|AC h4<|AN)) (by intro h;cases h))
    ·apply KE<;>intro h5
     ·exact KB (KD (show dS (cb v0 (i:Int)) .ret (dO false) from RP [.b true,.b false,.b false,.b false,.b true] (AC hb<|AC hp<|AC h2<|AC h3<|AC hp<|AC h4<|AC hp<|AC h5<|AN)) (by intro h;cases h))
     ·exact (ih (i+1) hE2 hl).mono fun y hy=>by have r:dS (cb v0 (i:Int)) .normal (cb v0 (inc (i:Int))):=RP [.b true,.b false,.b false,.b false,.b false] (AC hb<|AC hp<|AC h2<|AC h3<|AC hp<|AC h4<|AC hp<|AC h5<|AN);rw [hw] at r;cases y<;>exact KC r hy
noncomputable def nL (x0:ByteArray):Option (Bool) :=
  if x0.size≤9223372036854775807 then (dT (bK x0) 0).bind fun y=>match y with
   | .ret w0_2=>(some (w0_2))
   | .x0=>(some (ag (x0.size:Int) (1:Int) (8:Int))) else none
theorem EZ (x0:ByteArray):Ans (nL x0) (fun r=>Does E 50 [.one (tS x0)] [(false,[tB r])]):=by
 unfold nL
 refine KG (fun hl1 => ?_)
 refine KF (fun y hy => ?_)
 replace hy:=C1 x0 (bK x0) 0 rfl hl1 y hy
 cases y with
 | ret w0_2 =>
  have h0:=hy
  exact KB (DP Tryz.f50 [.lp .ret (dO w0_2)] (AL h0<|AN))
 | x0 =>
  have h0:=hy
  exact KB (DP Tryz.f50 [.lp (.exit 0) (nj x0),.ret [(false,[tB (ag (x0.size:Int) (1:Int) (8:Int))])]] (AL h0<|AD (ax (x0.size:Int) (1:Int) (8:Int))<|AN))
def pP (h:Int):Bool:=decide (97≤h∧h≤122)
def lfI (h:Int):Bool:=decide (97≤h∧h≤122∨48≤h∧h≤57)
def If:List Int→Bool
 | []=>true
 | h::l=>pP h&&l.all lfI
def dB (s:ByteArray):Bool:=ag (s.size:Int) 1 8&&If (bK s)
theorem Jb {α:Type} (h:Int) (A B:α):cond (decide (h<97)) (cond (decide (h<48)) A (cond (decide (h>57)) A B)) (cond (decide (h>122)) (cond (decide (h<48)) A (cond (decide (h>57)) A B)) B)=cond (lfI h) B A:=by
 unfold lfI
 simp only [Bool.cond_decide]
 repeat' split
 all_goals first | rfl | (exfalso;omega)
theorem IA {α:Type} (h:Int) (A B:α):cond (decide (h≥97)) (cond (decide (h≤122)) B (cond (decide (h<48)) A (cond (decide (h>57)) A B))) (cond (decide (h<48)) A (cond (decide (h>57)) A B))=cond (lfI h) B A:=by
 unfold lfI
 simp only [Bool.cond_decide]
 repeat' split
 all_goals first | rfl | (exfalso;omega)
theorem Iz {α:Type} (h:Int) (A B:α):cond (decide (h≥97)) (cond (decide (h≤122)) B A) A=cond (pP h) B A:=by
 unfold pP
 simp only [Bool.cond_decide]
 repeat' split
 all_goals first | rfl | (exfalso;omega)
theorem Ja {h:Int} (q:pP h=true):lfI h=true:=by
 unfold pP at q
 unfold lfI
 simp only [decide_eq_true_eq] at q ⊢
 exact .inl q
theorem D6:∀ (l:List Int) (i:Nat),eF l i=some (cond (l.all lfI) .x0 (.ret false))
 | [],i=>rfl
 | h::l,i=>by
  unfold eF
  rw [D6 l (i+1),List.all_cons,Jb]
  cases lfI h<;>rfl
theorem D5:∀ (l:List Int) (i:Nat),dT l (i+1)=some (cond (l.all lfI) .x0 (.ret false))
 | [],i=>rfl
 | h::l,i=>by
  unfold dT
  have e:(((i+1:Nat):Int)==0)=false:=by rw [beq_eq_false_iff_ne];omega
  rw [D5 l (i+1),List.all_cons,e]
  simp only [cond_false]
  rw [IA]
  cases lfI h<;>rfl
theorem Jd (s:ByteArray) (hs:s.size≤2000000):nT s=some (dB s):=by
 unfold nT dB
 cases q:ag (s.size:Int) 1 8 with
 | false=>rfl
 | true =>
  have hr:1≤(s.size:Int)∧(s.size:Int)≤8:=by unfold ag at q;simpa using q
  rw [cond_true,if_pos (by omega),if_pos (by omega),Bool.true_and,D6]
  have h0:=pY s 0 (by omega)
  cases e:bK s with
  | nil=>rw [e] at h0;cases h0
  | cons h l =>
   rw [e] at h0
   have hb:h=fg s (0:Int):=Option.some.inj h0
   rw [← hb]
   show _=some (pP h&&l.all lfI)
   rw [List.all_cons]
   have k:∀ (X:Option Bool),cond (decide (h<97)) (some false) (cond (decide (h>122)) (some false) X)=cond (pP h) X (some false):=fun X=>by
    unfold pP
    simp only [Bool.cond_decide]
    repeat' split
    all_goals first | rfl | (exfalso;omega)
   rw [k]
   cases q2:pP h with
   | false=>rfl
   | true =>
    rw [Ja q2]
    cases l.all lfI<;>rfl
theorem Jc (s:ByteArray) (hs:s.size≤2000000):nL s=some (dB s):=by
 unfold nL dB
 rw [if_pos (by omega)]
 cases e:bK s with
 | nil =>
  show some (ag (s.size:Int) 1 8)=some (ag (s.size:Int) 1 8&&true)
  rw [Bool.and_true]
 | cons h l =>
  unfold dT If
  have e0:(((0:Nat):Int)==0)=true:=rfl
  rw [D5 l 0,e0]
  simp only [cond_true]
  rw [Iz]
  cases pP h with
  | false=>rw [Bool.false_and,Bool.and_false];rfl
  | true =>
   rw [cond_true,Bool.true_and,Option.bind_some]
   cases l.all lfI with
   | false=>rw [Bool.and_false];rfl
   | true=>rw [Bool.and_true];rfl
theorem cv (x0:ByteArray) (h:x0.size≤2000000):Does E 45 [.one (tS x0)] [(false,[tB (dB x0)])]:=by
 exact Fq x0 _ (Jd x0 h)
theorem cQ (x0:ByteArray) (h:x0.size≤2000000):Does E 50 [.one (tS x0)] [(false,[tB (dB x0)])]:=by
 exact EZ x0 _ (Jc x0 h)
noncomputable def jp (x0:ByteArray):Option (Int) :=
  cond (x0.toList==(⟨#[111,110,101]⟩:ByteArray).toList)
   (some ((1:Int)))
   (cond (x0.toList==(⟨#[116,119,111]⟩:ByteArray).toList)
    (some ((2:Int)))
    (cond (x0.toList==(⟨#[119,105,100,101]⟩:ByteArray).toList)
     (some ((4:Int)))
     (some ((0:Int)))))
theorem B3 (x0:ByteArray):Ans (jp x0) (fun r=>Does E 71 [.one (tS x0)] [(false,[tI r])]):=by
 unfold jp
 apply KE<;>intro h0
 ·exact KB (DP Tryz.f71 [.b true] (AC h0<|AN))
 ·apply KE<;>intro h1
  ·exact KB (DP Tryz.f71 [.b false,.b true] (AC h0<|AC h1<|AN))
  ·apply KE<;>intro h2
   ·exact KB (DP Tryz.f71 [.b false,.b false,.b true] (AC h0<|AC h1<|AC h2<|AN))
   ·exact KB (DP Tryz.f71 [.b false,.b false,.b false] (AC h0<|AC h1<|AC h2<|AN))
noncomputable def th (x0:ByteArray):Option (Int) :=
  cond (x0.toList==(⟨#[111,110,101]⟩:ByteArray).toList)
   (some ((1:Int)))
   (cond (x0.toList==(⟨#[116,119,111]⟩:ByteArray).toList)
    (some ((2:Int)))
    (cond (x0.toList==(⟨#[119,105,100,101]⟩:ByteArray).toList)
     (some ((4:Int)))
     (some ((0:Int)))))
theorem Be (x0:ByteArray):Ans (th x0) (fun r=>Does E 76 [.one (tS x0)] [(false,[tI r])]):=by
 unfold th
 apply KE<;>intro h0
 ·exact KB (DP Tryz.f76 [.b true] (AC h0<|AN))
 ·apply KE<;>intro h1
  ·exact KB (DP Tryz.f76 [.b false,.b true] (AC h0<|AC h1<|AN))
  ·apply KE<;>intro h2
   ·exact KB (DP Tryz.f76 [.b false,.b false,.b true] (AC h0<|AC h1<|AC h2<|AN))
   ·exact KB (DP Tryz.f76 [.b false,.b false,.b false] (AC h0<|AC h1<|AC h2<|AN))
noncomputable def bM (s:ByteArray):Int:=(jp s).getD 0
theorem BN (s:ByteArray):jp s=some (bM s):=by
 refine Tot.getD ?_ _
 unfold jp
 repeat' (first | exact Tot.some _ | apply Tot.cond)
theorem lr (x0:ByteArray):Does E 71 [.one (tS x0)] [(false,[tI (bM x0)])]:=by
 exact B3 x0 _ (BN x0)
theorem ja (x0:ByteArray):Does E 76 [.one (tS x0)] [(false,[tI (bM x0)])]:=by
 exact Be x0 _ (BN x0)
inductive wS where
 | ret (v4:Int)
 | x0 
def jQ (q0:Kd) (v0:List GTask) (v1:ByteArray) (v5:Int):US:=stL 20 [(0,.one (.s .far () 5 (v0.map (GTask.t q0)))),(1,.one (tS v1)),(5,.one (tI v5))]
def nA (q0:Kd) (zv4:Int):US:=stL 20 [(4,.one (tI zv4))]
def oN (q0:Kd)  : US:=stL 20 []
abbrev rI:US→Exit→US→Prop:=Round E 70 (az Tryz.f70 0)
def Fw {q0:Kd} (v0:List GTask) (v1:ByteArray) (v5:Int):wS→Prop
 | .ret zv4=>Loops E 70 (az Tryz.f70 0) (jQ q0 v0 v1 v5) .ret (nA q0 zv4)
 | .x0=>Loops E 70 (az Tryz.f70 0) (jQ q0 v0 v1 v5) (.exit 0) (oN q0)
noncomputable def iu (v1:ByteArray):List GTask→Nat→Option wS
 | [],i=>some (.x0)
 | hd::rest,i=>cond (hd.f0.toList==v1.toList)
  (some (.ret (i:Int)))
  (iu v1 rest (i+1))
theorem Fv {q0:Kd} (v0:List GTask) (v1:ByteArray) (rest:List GTask):∀ (i:Nat) ,(v0).drop i=rest→v0.length≤9223372036854775807→Ans (iu v1 rest i) (Fw (q0:=q0) v0 v1 (i:Int)):=by
 induction rest with
 | nil =>
  intro i hE hl
  have hb:=br hE
  unfold iu
  exact KB (KD (show rI (jQ q0 v0 v1 (i:Int)) (.exit 0) (oN q0) from RP [.val (.int .i64 (v0.length:Int)),.b false] (ALn v0 (GTask.t q0)<|AC hb<|AN)) (by intro h;cases h))
 | cons hd rest ih =>
  intro i hE hl
  have hb:=bd hE
  have hw:=be hE hl
  have hE2:=aJ hE
  have hg:=ba hE
  unfold iu
  apply KE<;>intro h2
  ·exact KB (KD (show rI (jQ q0 v0 v1 (i:Int)) .ret (nA q0 (i:Int)) from RP [.val (.int .i64 (v0.length:Int)),.b true,.row ((GTask.t q0) hd),.b true] (ALn v0 (GTask.t q0)<|AC hb<|AR (GTask.t q0) hg<|AC h2<|AN)) (by intro h;cases h))
  ·exact (ih (i+1) hE2 hl).mono fun y hy=>by have r:rI (jQ q0 v0 v1 (i:Int)) .normal (jQ q0 v0 v1 (inc (i:Int))):=RP [.val (.int .i64 (v0.length:Int)),.b true,.row ((GTask.t q0) hd),.b false] (ALn v0 (GTask.t q0)<|AC hb<|AR (GTask.t q0) hg<|AC h2<|AN);rw [hw] at r;cases y<;>exact KC r hy
noncomputable def ua (x0:List GTask) (x1:ByteArray):Option (Int) :=
  if x0.length≤9223372036854775807 then (iu x1 x0 0).bind fun y=>match y with
   | .ret w0_4=>(some (w0_4))
   | .x0=>(some ((-1:Int))) else none
theorem GV {q0:Kd} (x0:List GTask) (x1:ByteArray):Ans (ua x0 x1) (fun r=>Does E 70 [.one (.s .far () 5 (x0.map (GTask.t q0))),.one (tS x1)] [(false,[tI r])]):=by
 unfold ua
 refine KG (fun hl1 => ?_)
 refine KF (fun y hy => ?_)
 replace hy:=Fv (q0:=q0) x0 x1 x0 0 rfl hl1 y hy
 cases y with
 | ret w0_4 =>
  have h0:=hy
  exact KB (DP Tryz.f70 [.lp .ret (nA q0 w0_4)] (AL h0<|AN))
 | x0 =>
  have h0:=hy
  exact KB (DP Tryz.f70 [.lp (.exit 0) (oN q0)] (AL h0<|AN))
noncomputable def tj (x0:GTask) (y0:ByteArray):Option (Bool) :=
  some (x0.f0.toList==y0.toList)
theorem Bf (x0:GTask) (y0:ByteArray):Ans (tj x0 y0) (fun r=>Does E 78 [.agg (GTask.t .far x0),.im .far () [tS y0] 0] [(false,[tB r])]):=by
 unfold tj
 exact KB (DP Tryz.f78 [] AN)
def gY (x:GTask) (n:ByteArray):Bool:=x.f0.toList==n.toList
def lu (n:ByteArray):List GTask→Nat→Int
 | [],_ => -1
 | t::r,i=>cond (gY t n) (i:Int) (lu n r (i+1))
def ar (ts:List GTask) (n:ByteArray):Int:=lu n ts 0
theorem lv (n:ByteArray):∀ (l:List GTask) (i:Nat),(lu n l i = -1∧∀ t∈l,gY t n=false)∨∃ (k:Nat) (t:GTask),lu n l i=((i+k:Nat):Int)∧l[k]?=some t∧gY t n=true
 | [],i => .inl ⟨rfl,fun t ht=>by cases ht⟩
 | t::l,i=>by
  unfold lu
  cases q:gY t n with
  | true=>exact .inr ⟨0,t,rfl,rfl,q⟩
  | false =>
   rw [cond_false]
   rcases lv n l (i+1) with ⟨h,h'⟩ | ⟨k,u,h1,h2,h3⟩
   ·exact .inl ⟨h,fun u hu=>by rcases List.mem_cons.1 hu with rfl | hu;exact q;exact h' u hu⟩
   ·exact .inr ⟨k+1,u,by rw [h1];omega,h2,h3⟩
theorem FC (ts:List GTask) (n:ByteArray) : -1≤ar ts n∧ar ts n<(ts.length:Int):=by
 unfold ar
 rcases lv n ts 0 with ⟨h,_⟩ | ⟨k,t,h1,h2,_⟩
 ·rw [h];omega
 ·have:k<ts.length:=by
   rcases Nat.lt_or_ge k ts.length with g | g
   ·exact g
   ·rw [List.getElem?_eq_none g] at h2;cases h2
  rw [h1];omega
theorem DF {ts:List GTask} {n:ByteArray} (h:0≤ar ts n):∃ t∈ts,tx t.f0=tx n:=by
 unfold ar at h
 rcases lv n ts 0 with ⟨h',_⟩ | ⟨k,t,h1,h2,h3⟩
 ·rw [h'] at h;omega
 ·unfold gY at h3
  rw [iy,decide_eq_true_eq] at h3
  exact ⟨t,List.mem_of_getElem? h2,h3⟩
theorem IX (n:ByteArray):∀ (l:List GTask) (i:Nat),(iu n l i).bind (fun y=>match y with
   | .ret w0_4=>(some (w0_4))
   | .x0=>(some ((-1:Int))))=some (lu n l i)
 | [],i=>rfl
 | t::l,i=>by
  unfold iu lu
  have e:(t.f0.toList==n.toList)=gY t n:=rfl
  rw [e]
  cases gY t n with
  | true=>rfl
  | false=>exact IX n l (i+1)
theorem sJ (x0:GTask) (y0:ByteArray):Does E 78 [.agg (GTask.t .far x0),.im .far () [tS y0] 0] [(false,[tB (gY x0 y0)])]:=by
 exact Bf x0 y0 _ rfl
theorem eJ {q0:Kd} (x0:List GTask) (x1:ByteArray) (h:x0.length≤1050000):Does E 70 [.one (.s .far () 5 (x0.map (GTask.t q0))),.one (tS x1)] [(false,[tI (ar x0 x1)])]:=by
 exact GV x0 x1 _ (by unfold ua;rw [if_pos (by omega)];exact IX x1 x0 0)
inductive e9 where
 | ret (v4:Int)
 | x0 
def bq (q0:Kd) (v0:List GTask) (v1_0_0:ByteArray) (v7 v8:Int):US:=stL 19 [(0,.one (.s .far () 5 (v0.map (GTask.t q0)))),(1,.fni 78 [((),[tS v1_0_0])]),(7,.one (tI v7)),(8,.one (tI v8))]
def cO (q0:Kd) (zv4:Int):US:=stL 19 [(4,.one (tI zv4))]
def cU (q0:Kd)  : US:=stL 19 []
abbrev df:US→Exit→US→Prop:=Round E 77 (az Tryz.f77 0)
def jT {q0:Kd} (v0:List GTask) (v1_0_0:ByteArray) (v7 v8:Int):e9→Prop
 | .ret zv4=>Loops E 77 (az Tryz.f77 0) (bq q0 v0 v1_0_0 v7 v8) .ret (cO q0 zv4)
 | .x0=>Loops E 77 (az Tryz.f77 0) (bq q0 v0 v1_0_0 v7 v8) (.exit 0) (cU q0)
noncomputable def a7 (v1_0_0:ByteArray):List GTask→Nat→Option e9
 | [],i=>some (.x0)
 | hd::rest,i=>cond (gY hd v1_0_0)
  (some (.ret (i:Int)))
  (a7 v1_0_0 rest (i+1))
theorem jS {q0:Kd} (v0:List GTask) (v1_0_0:ByteArray) (rest:List GTask):∀ (i:Nat) ,(v0).drop i=rest→v0.length≤9223372036854775807→Ans (a7 v1_0_0 rest i) (jT (q0:=q0) v0 v1_0_0 (v0.length:Int) (i:Int)):=by
 induction rest with
 | nil =>
  intro i hE hl
  have hb:=br hE
  unfold a7
  exact KB (KD (show df (bq q0 v0 v1_0_0 (v0.length:Int) (i:Int)) (.exit 0) (cU q0) from RP [.b false] (AC hb<|AN)) (by intro h;cases h))
 | cons hd rest ih =>
  intro i hE hl
  have hb:=bd hE
  have hw:=be hE hl
  have hE2:=aJ hE
  have hg:=ba hE
  unfold a7
  apply KE<;>intro h2
  ·exact KB (KD (show df (bq q0 v0 v1_0_0 (v0.length:Int) (i:Int)) .ret (cO q0 (i:Int)) from RP [.b true,.row ((GTask.t q0) hd),rT] (AC hb<|AR (GTask.t q0) hg<|AD (KJ (sJ hd v1_0_0) h2)<|AN)) (by intro h;cases h))
  ·exact (ih (i+1) hE2 hl).mono fun y hy=>by have r:df (bq q0 v0 v1_0_0 (v0.length:Int) (i:Int)) .normal (bq q0 v0 v1_0_0 (v0.length:Int) (inc (i:Int))):=RP [.b true,.row ((GTask.t q0) hd),rF] (AC hb<|AR (GTask.t q0) hg<|AD (KJ (sJ hd v1_0_0) h2)<|AN);rw [hw] at r;cases y<;>exact KC r hy
noncomputable def dq (x0:List GTask) (c1_0:ByteArray):Option (Int) :=
  if x0.length≤9223372036854775807 then (a7 c1_0 x0 0).bind fun y=>match y with
   | .ret w0_4=>(some (w0_4))
   | .x0=>(some ((-1:Int))) else none
theorem ka {q0:Kd} (x0:List GTask) (c1_0:ByteArray):Ans (dq x0 c1_0) (fun r=>Does E 77 [.one (.s .far () 5 (x0.map (GTask.t q0))),.fni 78 [((),[tS c1_0])]] [(false,[tI r])]):=by
 unfold dq
 refine KG (fun hl1 => ?_)
 refine KF (fun y hy => ?_)
 replace hy:=jS (q0:=q0) x0 c1_0 x0 0 rfl hl1 y hy
 cases y with
 | ret w0_4 =>
  have h0:=hy
  exact KB (DP Tryz.f77 [.val (.int .i64 (x0.length:Int)),.lp .ret (cO q0 w0_4)] (ALn x0 (GTask.t q0)<|AL h0<|AN))
 | x0 =>
  have h0:=hy
  exact KB (DP Tryz.f77 [.val (.int .i64 (x0.length:Int)),.lp (.exit 0) (cU q0)] (ALn x0 (GTask.t q0)<|AL h0<|AN))
theorem IW (n:ByteArray):∀ (l:List GTask) (i:Nat),(a7 n l i).bind (fun y=>match y with
   | .ret w0_4=>(some (w0_4))
   | .x0=>(some ((-1:Int))))=some (lu n l i)
 | [],i=>rfl
 | t::l,i=>by
  unfold a7 lu
  cases gY t n with
  | true=>rfl
  | false=>exact IW n l (i+1)
theorem jX {q0:Kd} (x0:List GTask) (c1_0:ByteArray) (h:x0.length≤1050000):Does E 77 [.one (.s .far () 5 (x0.map (GTask.t q0))),.fni 78 [((),[tS c1_0])]] [(false,[tI (ar x0 c1_0)])]:=by
 exact ka x0 c1_0 _ (by unfold dq;rw [if_pos (by omega)];exact IW c1_0 x0 0)
noncomputable def re (x0:GDag) (x1:ByteArray):Option (Int) :=
  if x0.f5.length≤1050000 then some (ar x0.f5 x1) else none
theorem E0 {q0:Kd} (x0:GDag) (x1:ByteArray):Ans (re x0 x1) (fun r=>Does E 54 [.agg (GDag.t .far q0 x0),.one (tS x1)] [(false,[tI r])]):=by
 unfold re
 refine KG (fun h0 => ?_)
 exact KB (DP Tryz.f54 [.ret [(false,[tI (ar x0.f5 x1)])]] (AV (ψ:=fun k=>E.C k 77 [.one (.s .far () 5 (x0.f5.map (GTask.t q0))),.fni 78 [((),[tS x1])]]=some [(false,[tI (ar x0.f5 x1)])]) (jX x0.f5 x1 h0)<|AN))
def bA (d:GDag) (n:ByteArray):Int:=ar d.f5 n
theorem eB {q0:Kd} (x0:GDag) (x1:ByteArray) (h:x0.f5.length≤1050000):Does E 54 [.agg (GDag.t .far q0 x0),.one (tS x1)] [(false,[tI (bA x0 x1)])]:=by
 exact E0 x0 x1 _ (by unfold re;rw [if_pos h];rfl)
end Go.Proofs.YtgaiiephdjllkaaGreatDoor.Am
namespace Go.Proofs.YtgaiiephdjllkaaGreatDoor.Am
open Go Go.Proofs Classical
set_option maxRecDepth 100000
set_option linter.unusedVariables false
set_option linter.unusedSimpArgs false
inductive pf where
 | ret (v6:Bool)
 | x0 
def eZ (q0:Kd) (v0_0 v0_1:ByteArray) (v0_2 v0_3:Int) (v0_4:Bool) (v0_5:List GTask) (v2:List Int) (v10:List ByteArray) (v11 v12:Int):US:=stL 25 [(0,.im .far () [tS v0_0,tS v0_1,tI v0_2,tI v0_3,tB v0_4,.s .far () 5 (v0_5.map (GTask.t q0))] 0),(2,.one (.s .far () 1 (v2.map etI))),(10,.one (.s .far () 1 (v10.map etS))),(11,.one (tI v11)),(12,.one (tI v12))]
def ji (q0:Kd) (zv6:Bool):US:=stL 25 [(6,.one (tB zv6))]
def jY (q0:Kd)  : US:=stL 25 []
abbrev lI:US→Exit→US→Prop:=Round E 81 (az Tryz.f81 0)
def wo {q0:Kd} (v0_0 v0_1:ByteArray) (v0_2 v0_3:Int) (v0_4:Bool) (v0_5:List GTask) (v2:List Int) (v10:List ByteArray) (v11 v12:Int):pf→Prop
 | .ret zv6=>Loops E 81 (az Tryz.f81 0) (eZ q0 v0_0 v0_1 v0_2 v0_3 v0_4 v0_5 v2 v10 v11 v12) .ret (ji q0 zv6)
 | .x0=>Loops E 81 (az Tryz.f81 0) (eZ q0 v0_0 v0_1 v0_2 v0_3 v0_4 v0_5 v2 v10 v11 v12) (.exit 0) (jY q0)
noncomputable def d6 (v0_0 v0_1:ByteArray) (v0_2 v0_3:Int) (v0_5:List GTask) (v2:List Int):List ByteArray→Nat→Bool→Option pf
 | [],i,v0_4=>some (.x0)
 | hd::rest,i,v0_4=>if (GDag.mk v0_0 v0_1 v0_2 v0_3 v0_4 v0_5).f5.length≤1050000 then if v2.length≤1050000 then cond (cr v2 (bA (GDag.mk v0_0 v0_1 v0_2 v0_3 v0_4 v0_5) hd))
  (d6 v0_0 v0_1 v0_2 v0_3 v0_5 v2 rest (i+1) v0_4)
  (some (.ret false)) else none else none
theorem wn {q0:Kd} (v0_0 v0_1:ByteArray) (v0_2 v0_3:Int) (v0_5:List GTask) (v2:List Int) (v10:List ByteArray) (rest:List ByteArray):∀ (i:Nat) (v0_4:Bool),(v10).drop i=rest→v10.length≤9223372036854775807→Ans (d6 v0_0 v0_1 v0_2 v0_3 v0_5 v2 rest i v0_4) (wo (q0:=q0) v0_0 v0_1 v0_2 v0_3 v0_4 v0_5 v2 v10 (v10.length:Int) (i:Int)):=by
 induction rest with
 | nil =>
  intro i v0_4 hE hl
  have hb:=br hE
  unfold d6
  exact KB (KD (show lI (eZ q0 v0_0 v0_1 v0_2 v0_3 v0_4 v0_5 v2 v10 (v10.length:Int) (i:Int)) (.exit 0) (jY q0) from RP [.b false] (AC hb<|AN)) (by intro h;cases h))
 | cons hd rest ih =>
  intro i v0_4 hE hl
  have hb:=bd hE
  have hw:=be hE hl
  have hE2:=aJ hE
  have hg:=ba hE
  unfold d6
  refine KG (fun h2 => ?_)
  refine KG (fun h3 => ?_)
  apply KE<;>intro h4
  ·exact (ih (i+1) v0_4 hE2 hl).mono fun y hy=>by have r:lI (eZ q0 v0_0 v0_1 v0_2 v0_3 v0_4 v0_5 v2 v10 (v10.length:Int) (i:Int)) .normal (eZ q0 v0_0 v0_1 v0_2 v0_3 v0_4 v0_5 v2 v10 (v10.length:Int) (inc (i:Int))):=RP [.b true,.row (etS hd),.ret [(false,[tI (bA (GDag.mk v0_0 v0_1 v0_2 v0_3 v0_4 v0_5) hd)])],rT] (AC hb<|AR etS hg<|AV (ψ:=fun k=>E.C k 54 [.agg (GDag.t .far q0 (GDag.mk v0_0 v0_1 v0_2 v0_3 v0_4 v0_5)),.one (tS hd)]=some [(false,[tI (bA (GDag.mk v0_0 v0_1 v0_2 v0_3 v0_4 v0_5) hd)])]) (eB (GDag.mk v0_0 v0_1 v0_2 v0_3 v0_4 v0_5) hd h2)<|AD (KJ (eU v2 (bA (GDag.mk v0_0 v0_1 v0_2 v0_3 v0_4 v0_5) hd) h3) h4)<|AN);rw [hw] at r;cases y<;>exact KC r hy
  ·exact KB (KD (show lI (eZ q0 v0_0 v0_1 v0_2 v0_3 v0_4 v0_5 v2 v10 (v10.length:Int) (i:Int)) .ret (ji q0 false) from RP [.b true,.row (etS hd),.ret [(false,[tI (bA (GDag.mk v0_0 v0_1 v0_2 v0_3 v0_4 v0_5) hd)])],rF] (AC hb<|AR etS hg<|AV (ψ:=fun k=>E.C k 54 [.agg (GDag.t .far q0 (GDag.mk v0_0 v0_1 v0_2 v0_3 v0_4 v0_5)),.one (tS hd)]=some [(false,[tI (bA (GDag.mk v0_0 v0_1 v0_2 v0_3 v0_4 v0_5) hd)])]) (eB (GDag.mk v0_0 v0_1 v0_2 v0_3 v0_4 v0_5) hd h2)<|AD (KJ (eU v2 (bA (GDag.mk v0_0 v0_1 v0_2 v0_3 v0_4 v0_5) hd) h3) h4)<|AN)) (by intro h;cases h))
noncomputable def jC (x0:GDag) (x1:GTask) (x2:List Int):Option (Bool) :=
  if x1.f4.length≤9223372036854775807 then (d6 x0.f0 x0.f1 x0.f2 x0.f3 x0.f5 x2 x1.f4 0 x0.f4).bind fun y=>match y with
   | .ret w0_6=>(some (w0_6))
   | .x0=>(some (true)) else none
theorem xx {q0:Kd} (x0:GDag) (x1:GTask) (x2:List Int):Ans (jC x0 x1 x2) (fun r=>Does E 81 [.im .far () (GDag.t .far q0 x0) 0,.agg (GTask.t .far x1),.one (.s .far () 1 (x2.map etI))] [(false,[tB r])]):=by
 unfold jC
 refine KG (fun hl1 => ?_)
 refine KF (fun y hy => ?_)
 replace hy:=wn (q0:=q0) x0.f0 x0.f1 x0.f2 x0.f3 x0.f5 x2 x1.f4 x1.f4 0 x0.f4 rfl hl1 y hy
 cases y with
 | ret w0_6 =>
  have h0:=hy
  exact KB (DP Tryz.f81 [.val (.int .i64 (x1.f4.length:Int)),.lp .ret (ji q0 w0_6)] (ALn x1.f4 etS<|AL h0<|AN))
 | x0 =>
  have h0:=hy
  exact KB (DP Tryz.f81 [.val (.int .i64 (x1.f4.length:Int)),.lp (.exit 0) (jY q0)] (ALn x1.f4 etS<|AL h0<|AN))
def pc (ts:List GTask) (o:List Int) (t:GTask):Bool:=t.f4.all fun n=>cr o (ar ts n)
def tz (d:GDag) (t:GTask) (o:List Int):Bool:=pc d.f5 o t
theorem Ge (a b:ByteArray) (c e:Int) (ts:List GTask) (o:List Int) (ht:ts.length≤1050000) (ho:o.length≤1050000):∀ (l:List ByteArray) (i:Nat) (z:Bool),d6 a b c e ts o l i z=some (cond (l.all fun n=>cr o (ar ts n)) .x0 (.ret false))
 | [],i,z=>rfl
 | n::l,i,z=>by
  unfold d6
  rw [if_pos (show (GDag.mk a b c e z ts).f5.length≤1050000 from ht),if_pos ho,List.all_cons,Ge a b c e ts o ht ho l (i+1) z]
  show cond (cr o (ar ts n)) _ _=_
  cases cr o (ar ts n)<;>rfl
theorem I8 (d:GDag) (t:GTask) (o:List Int) (h1:d.f5.length≤1050000) (h2:t.f4.length≤1050000) (h3:o.length≤1050000):jC d t o=some (tz d t o):=by
 unfold jC
 rw [if_pos (by omega),Ge _ _ _ _ _ _ h1 h3]
 show _=some (t.f4.all fun n=>cr o (ar d.f5 n))
 cases t.f4.all fun n=>cr o (ar d.f5 n)<;>rfl
theorem xd {q0:Kd} (x0:GDag) (x1:GTask) (x2:List Int) (h1:x0.f5.length≤1050000) (h2:x1.f4.length≤1050000) (h3:x2.length≤1050000):Does E 81 [.im .far () (GDag.t .far q0 x0) 0,.agg (GTask.t .far x1),.one (.s .far () 1 (x2.map etI))] [(false,[tB (tz x0 x1 x2)])]:=by
 exact xx x0 x1 x2 _ (I8 x0 x1 x2 h1 h2 h3)
noncomputable def nk (x0:GTask) (y0:List Int) (y1:GDag):Option (Bool) :=
  if y1.f5.length≤1050000 then if y0.length≤1050000 then cond (cr y0 (bA y1 x0.f0))
   (some (false))
   (if x0.f4.length≤1050000 then some (tz y1 x0 y0) else none) else none else none
theorem zf {qy1:Kd} (x0:GTask) (y0:List Int) (y1:GDag):Ans (nk x0 y0 y1) (fun r=>Does E 79 [.agg (GTask.t .far x0),.im .far () [.s .far () 1 (y0.map etI)] 0,.im .far () [tS y1.f0,tS y1.f1,tI y1.f2,tI y1.f3,tB y1.f4,.s .far () 5 (y1.f5.map (GTask.t qy1))] 0] [(false,[tB r])]):=by
 unfold nk
 refine KG (fun h0 => ?_)
 refine KG (fun h1 => ?_)
 apply KE<;>intro h2
 ·exact KB (DP Tryz.f79 [.ret [(false,[tI (bA y1 x0.f0)])],rT] (AV (ψ:=fun k=>E.C k 54 [.agg (GDag.t .far qy1 y1),.one (tS x0.f0)]=some [(false,[tI (bA y1 x0.f0)])]) (eB y1 x0.f0 h0)<|AD (KJ (eU y0 (bA y1 x0.f0) h1) h2)<|AN))
 ·refine KG (fun h3 => ?_)
  exact KB (DP Tryz.f79 [.ret [(false,[tI (bA y1 x0.f0)])],rF,.ret [(false,[tB (tz y1 x0 y0)])]] (AV (ψ:=fun k=>E.C k 54 [.agg (GDag.t .far qy1 y1),.one (tS x0.f0)]=some [(false,[tI (bA y1 x0.f0)])]) (eB y1 x0.f0 h0)<|AD (KJ (eU y0 (bA y1 x0.f0) h1) h2)<|AV (ψ:=fun k=>E.C k 81 [.im .far () [tS y1.f0,tS y1.f1,tI y1.f2,tI y1.f3,tB y1.f4,.s .far () 5 (y1.f5.map (GTask.t qy1))] 0,.agg (GTask.t .far x0),.one (.s .far () 1 (y0.map etI))]=some [(false,[tB (tz y1 x0 y0)])]) (xd y1 x0 y0 h0 h3 h1)<|AN))
def vz (t:GTask) (o:List Int) (d:GDag):Bool := !cr o (ar d.f5 t.f0)&&pc d.f5 o t
theorem rN {qy1:Kd} (x0:GTask) (y0:List Int) (y1:GDag) (h1:y1.f5.length≤1050000) (h2:x0.f4.length≤1050000) (h3:y0.length≤1050000):Does E 79 [.agg (GTask.t .far x0),.im .far () [.s .far () 1 (y0.map etI)] 0,.im .far () [tS y1.f0,tS y1.f1,tI y1.f2,tI y1.f3,tB y1.f4,.s .far () 5 (y1.f5.map (GTask.t qy1))] 0] [(false,[tB (vz x0 y0 y1)])]:=by
 exact zf x0 y0 y1 _ (by
  unfold nk vz
  simp only [h1,h2,h3,if_true]
  show cond (cr y0 (ar y1.f5 x0.f0)) _ _=_
  cases cr y0 (ar y1.f5 x0.f0)<;>rfl)
inductive eS where
 | ret (v4:Int)
 | x0 
def bo (q0:Kd) (qc1_1:Kd) (v0:List GTask) (v1_0_0:List Int) (v1_1_0 v1_1_1:ByteArray) (v1_1_2 v1_1_3:Int) (v1_1_4:Bool) (v1_1_5:List GTask) (v7 v8:Int):US:=stL 19 [(0,.one (.s .far () 5 (v0.map (GTask.t q0)))),(1,.fni 79 [((),[.s .far () 1 (v1_0_0.map etI)]),((),[tS v1_1_0,tS v1_1_1,tI v1_1_2,tI v1_1_3,tB v1_1_4,.s .far () 5 (v1_1_5.map (GTask.t qc1_1))])]),(7,.one (tI v7)),(8,.one (tI v8))]
def cH (q0:Kd) (qc1_1:Kd) (zv4:Int):US:=stL 19 [(4,.one (tI zv4))]
def cP (q0:Kd) (qc1_1:Kd)  : US:=stL 19 []
abbrev cY:US→Exit→US→Prop:=Round E 77 (az Tryz.f77 0)
def jt {q0:Kd} {qc1_1:Kd} (v0:List GTask) (v1_0_0:List Int) (v1_1_0 v1_1_1:ByteArray) (v1_1_2 v1_1_3:Int) (v1_1_4:Bool) (v1_1_5:List GTask) (v7 v8:Int):eS→Prop
 | .ret zv4=>Loops E 77 (az Tryz.f77 0) (bo q0 qc1_1 v0 v1_0_0 v1_1_0 v1_1_1 v1_1_2 v1_1_3 v1_1_4 v1_1_5 v7 v8) .ret (cH q0 qc1_1 zv4)
 | .x0=>Loops E 77 (az Tryz.f77 0) (bo q0 qc1_1 v0 v1_0_0 v1_1_0 v1_1_1 v1_1_2 v1_1_3 v1_1_4 v1_1_5 v7 v8) (.exit 0) (cP q0 qc1_1)
noncomputable def aY (v1_0_0:List Int) (v1_1_0 v1_1_1:ByteArray) (v1_1_2 v1_1_3:Int) (v1_1_5:List GTask):List GTask→Nat→Bool→Option eS
 | [],i,v1_1_4=>some (.x0)
 | hd::rest,i,v1_1_4=>if (GDag.mk v1_1_0 v1_1_1 v1_1_2 v1_1_3 v1_1_4 v1_1_5).f5.length≤1050000 then if hd.f4.length≤1050000 then if v1_0_0.length≤1050000 then cond (vz hd v1_0_0 (GDag.mk v1_1_0 v1_1_1 v1_1_2 v1_1_3 v1_1_4 v1_1_5))
  (some (.ret (i:Int)))
  (aY v1_0_0 v1_1_0 v1_1_1 v1_1_2 v1_1_3 v1_1_5 rest (i+1) v1_1_4) else none else none else none
theorem js {q0:Kd} {qc1_1:Kd} (v0:List GTask) (v1_0_0:List Int) (v1_1_0 v1_1_1:ByteArray) (v1_1_2 v1_1_3:Int) (v1_1_5:List GTask) (rest:List GTask):∀ (i:Nat) (v1_1_4:Bool),(v0).drop i=rest→v0.length≤9223372036854775807→Ans (aY v1_0_0 v1_1_0 v1_1_1 v1_1_2 v1_1_3 v1_1_5 rest i v1_1_4) (jt (q0:=q0) (qc1_1:=qc1_1) v0 v1_0_0 v1_1_0 v1_1_1 v1_1_2 v1_1_3 v1_1_4 v1_1_5 (v0.length:Int) (i:Int)):=by
 induction rest with
 | nil =>
  intro i v1_1_4 hE hl
  have hb:=br hE
  unfold aY
  exact KB (KD (show cY (bo q0 qc1_1 v0 v1_0_0 v1_1_0 v1_1_1 v1_1_2 v1_1_3 v1_1_4 v1_1_5 (v0.length:Int) (i:Int)) (.exit 0) (cP q0 qc1_1) from RP [.b false] (AC hb<|AN)) (by intro h;cases h))
 | cons hd rest ih =>
  intro i v1_1_4 hE hl
  have hb:=bd hE
  have hw:=be hE hl
  have hE2:=aJ hE
  have hg:=ba hE
  unfold aY
  refine KG (fun h2 => ?_)
  refine KG (fun h3 => ?_)
  refine KG (fun h4 => ?_)
  apply KE<;>intro h5
  ·exact KB (KD (show cY (bo q0 qc1_1 v0 v1_0_0 v1_1_0 v1_1_1 v1_1_2 v1_1_3 v1_1_4 v1_1_5 (v0.length:Int) (i:Int)) .ret (cH q0 qc1_1 (i:Int)) from RP [.b true,.row ((GTask.t q0) hd),rT] (AC hb<|AR (GTask.t q0) hg<|AV (ψ:=fun k=>E.C k 79 [.agg (GTask.t .far hd),.im .far () [.s .far () 1 (v1_0_0.map etI)] 0,.im .far () [tS v1_1_0,tS v1_1_1,tI v1_1_2,tI v1_1_3,tB v1_1_4,.s .far () 5 (v1_1_5.map (GTask.t qc1_1))] 0]=some [(false,[tB true])]) (KH (rN hd v1_0_0 (GDag.mk v1_1_0 v1_1_1 v1_1_2 v1_1_3 v1_1_4 v1_1_5) h2 h3 h4) (by rw [h5]))<|AN)) (by intro h;cases h))
  ·exact (ih (i+1) v1_1_4 hE2 hl).mono fun y hy=>by have r:cY (bo q0 qc1_1 v0 v1_0_0 v1_1_0 v1_1_1 v1_1_2 v1_1_3 v1_1_4 v1_1_5 (v0.length:Int) (i:Int)) .normal (bo q0 qc1_1 v0 v1_0_0 v1_1_0 v1_1_1 v1_1_2 v1_1_3 v1_1_4 v1_1_5 (v0.length:Int) (inc (i:Int))):=RP [.b true,.row ((GTask.t q0) hd),rF] (AC hb<|AR (GTask.t q0) hg<|AV (ψ:=fun k=>E.C k 79 [.agg (GTask.t .far hd),.im .far () [.s .far () 1 (v1_0_0.map etI)] 0,.im .far () [tS v1_1_0,tS v1_1_1,tI v1_1_2,tI v1_1_3,tB v1_1_4,.s .far () 5 (v1_1_5.map (GTask.t qc1_1))] 0]=some [(false,[tB false])]) (KH (rN hd v1_0_0 (GDag.mk v1_1_0 v1_1_1 v1_1_2 v1_1_3 v1_1_4 v1_1_5) h2 h3 h4) (by rw [h5]))<|AN);rw [hw] at r;cases y<;>exact KC r hy
noncomputable def ci (x0:List GTask) (c1_0:List Int) (c1_1:GDag):Option (Int) :=
  if x0.length≤9223372036854775807 then (aY c1_0 c1_1.f0 c1_1.f1 c1_1.f2 c1_1.f3 c1_1.f5 x0 0 c1_1.f4).bind fun y=>match y with
   | .ret w0_4=>(some (w0_4))
   | .x0=>(some ((-1:Int))) else none
theorem jU {q0:Kd} {qc1_1:Kd} (x0:List GTask) (c1_0:List Int) (c1_1:GDag):Ans (ci x0 c1_0 c1_1) (fun r=>Does E 77 [.one (.s .far () 5 (x0.map (GTask.t q0))),.fni 79 [((),[.s .far () 1 (c1_0.map etI)]),((),[tS c1_1.f0,tS c1_1.f1,tI c1_1.f2,tI c1_1.f3,tB c1_1.f4,.s .far () 5 (c1_1.f5.map (GTask.t qc1_1))])]] [(false,[tI r])]):=by
 unfold ci
 refine KG (fun hl1 => ?_)
 refine KF (fun y hy => ?_)
 replace hy:=js (q0:=q0) (qc1_1:=qc1_1) x0 c1_0 c1_1.f0 c1_1.f1 c1_1.f2 c1_1.f3 c1_1.f5 x0 0 c1_1.f4 rfl hl1 y hy
 cases y with
 | ret w0_4 =>
  have h0:=hy
  exact KB (DP Tryz.f77 [.val (.int .i64 (x0.length:Int)),.lp .ret (cH q0 qc1_1 w0_4)] (ALn x0 (GTask.t q0)<|AL h0<|AN))
 | x0 =>
  have h0:=hy
  exact KB (DP Tryz.f77 [.val (.int .i64 (x0.length:Int)),.lp (.exit 0) (cP q0 qc1_1)] (ALn x0 (GTask.t q0)<|AL h0<|AN))
def ez (o:List Int) (ts:List GTask):List GTask→Nat→Option Nat
 | [],_=>none
 | t::r,i=>if (!cr o (ar ts t.f0)&&pc ts o t)=true then some i else ez o ts r (i+1)
def cg (l:List GTask) (o:List Int) (d:GDag):Int:=match ez o d.f5 l 0 with | some i=>(i:Int) | none => -1
theorem GB (o:List Int) (a b:ByteArray) (c e:Int) (ts:List GTask) (ht:ts.length≤1050000) (ho:o.length≤1050000):∀ (l:List GTask) (i:Nat) (z:Bool),ak.sm l→aY o a b c e ts l i z=some (match ez o ts l i with | some k => .ret (k:Int) | none => .x0)
 | [],i,z,_=>rfl
 | t::l,i,z,hl=>by
  unfold aY ez
  have h4:t.f4.length≤1050000:=(hl.2 t (by simp)).2.2.1
  rw [if_pos (show (GDag.mk a b c e z ts).f5.length≤1050000 from ht),if_pos h4,if_pos ho,GB o a b c e ts ht ho l (i+1) z ⟨by have:=hl.1;simp at this;omega,fun y hy=>hl.2 y (by simp [hy])⟩]
  show cond (!cr o (ar ts t.f0)&&pc ts o t) _ _=_
  cases (!cr o (ar ts t.f0)&&pc ts o t)<;>rfl
theorem Je (l:List GTask) (o:List Int) (d:GDag) (h1:ak.sm l) (h2:d.f5.length≤1050000) (h3:o.length≤1050000):ci l o d=some (cg l o d):=by
 unfold ci cg
 rw [if_pos (by have:=h1.1;omega),GB o d.f0 d.f1 d.f2 d.f3 d.f5 h2 h3 l 0 d.f4 h1]
 cases ez o d.f5 l 0<;>rfl
theorem eV {q0:Kd} {qc1_1:Kd} (x0:List GTask) (c1_0:List Int) (c1_1:GDag) (h1:ak.sm x0) (h2:c1_1.f5.length≤1050000) (h3:c1_0.length≤1050000):Does E 77 [.one (.s .far () 5 (x0.map (GTask.t q0))),.fni 79 [((),[.s .far () 1 (c1_0.map etI)]),((),[tS c1_1.f0,tS c1_1.f1,tI c1_1.f2,tI c1_1.f3,tB c1_1.f4,.s .far () 5 (c1_1.f5.map (GTask.t qc1_1))])]] [(false,[tI (cg x0 c1_0 c1_1)])]:=by
 exact jU x0 c1_0 c1_1 _ (Je x0 c1_0 c1_1 h1 h2 h3)
inductive tr where
 | ret (v2:List Int)
def lK (q0:Kd) (v1_0 v1_1:ByteArray) (v1_2 v1_3:Int) (v1_4:Bool) (v1_5:List GTask) (v3_0:List Int):US:=stL 16 [(1,.box () [tS v1_0,tS v1_1,tI v1_2,tI v1_3,tB v1_4,.s .far () 5 (v1_5.map (GTask.t q0))]),(3,.box () [.s .own () 1 (v3_0.map etI)])]
def iX (q0:Kd) (zv2:List Int):US:=stL 16 [(2,.one (.s .own () 1 (zv2.map etI)))]
abbrev tq:US→Exit→US→Prop:=Round E 55 (az Tryz.f55 0)
def Bh {q0:Kd} (v1_0 v1_1:ByteArray) (v1_2 v1_3:Int) (v1_4:Bool) (v1_5:List GTask) (v3_0:List Int):tr→Prop
 | .ret zv2=>Loops E 55 (az Tryz.f55 0) (lK q0 v1_0 v1_1 v1_2 v1_3 v1_4 v1_5 v3_0) .ret (iX q0 zv2)
noncomputable def gM (v1_0 v1_1:ByteArray) (v1_2 v1_3:Int) (v1_5:List GTask):Nat→Bool→(List Int)→Option tr
 | 0,_,_=>none
 | n+1,v1_4,v3_0=>if ak.sm v1_5 then if (GDag.mk v1_0 v1_1 v1_2 v1_3 v1_4 v1_5).f5.length≤1050000 then if v3_0.length≤1050000 then cond (decide ((cg v1_5 v3_0 (GDag.mk v1_0 v1_1 v1_2 v1_3 v1_4 v1_5))<(0:Int)))
  (some (.ret v3_0))
  (if (v3_0.length+([cg v1_5 v3_0 (GDag.mk v1_0 v1_1 v1_2 v1_3 v1_4 v1_5)]).length)*8≤140737488355328∧v3_0.length+([cg v1_5 v3_0 (GDag.mk v1_0 v1_1 v1_2 v1_3 v1_4 v1_5)]).length≤4611686018427387904 then gM v1_0 v1_1 v1_2 v1_3 v1_5 n v1_4 (v3_0++([cg v1_5 v3_0 (GDag.mk v1_0 v1_1 v1_2 v1_3 v1_4 v1_5)])) else none) else none else none else none
theorem Bg {q0:Kd} (v1_0 v1_1:ByteArray) (v1_2 v1_3:Int) (v1_5:List GTask) (n:Nat):∀ (v1_4:Bool) (v3_0:List Int),Ans (gM v1_0 v1_1 v1_2 v1_3 v1_5 n v1_4 v3_0) (Bh (q0:=q0) v1_0 v1_1 v1_2 v1_3 v1_4 v1_5 v3_0):=by
 induction n with
 | zero=>intros;exact Ans.none
 | succ n ih =>
  intro v1_4 v3_0
  unfold gM
  refine KG (fun h0 => ?_)
  refine KG (fun h1 => ?_)
  refine KG (fun h2 => ?_)
  apply KE<;>intro h3
  ·exact KB (KD (show tq (lK q0 v1_0 v1_1 v1_2 v1_3 v1_4 v1_5 v3_0) .ret (iX q0 v3_0) from Round.to (RP (D':=stL 16 [(2,.one (.s .own () 1 (((v3_0.map etI).drop 0).take (v3_0.map etI).length)))]) [.ret [(false,[tI (cg v1_5 v3_0 (GDag.mk v1_0 v1_1 v1_2 v1_3 v1_4 v1_5))])],.b true] (AV (ψ:=fun k=>E.C k 77 [.one (.s .far () 5 (v1_5.map (GTask.t q0))),.fni 79 [((),[.s .far () 1 (v3_0.map etI)]),((),[tS v1_0,tS v1_1,tI v1_2,tI v1_3,tB v1_4,.s .far () 5 (v1_5.map (GTask.t q0))])]]=some [(false,[tI (cg v1_5 v3_0 (GDag.mk v1_0 v1_1 v1_2 v1_3 v1_4 v1_5))])]) (eV v1_5 v3_0 (GDag.mk v1_0 v1_1 v1_2 v1_3 v1_4 v1_5) h0 h1 h2)<|AC h3<|AN)) (by simp only [iX,List.take_length,List.drop_zero])) (by intro h;cases h))
  ·refine KG (fun h4 => ?_)
   have r:tq (lK q0 v1_0 v1_1 v1_2 v1_3 v1_4 v1_5 v3_0) .normal (lK q0 v1_0 v1_1 v1_2 v1_3 v1_4 v1_5 (v3_0++([cg v1_5 v3_0 (GDag.mk v1_0 v1_1 v1_2 v1_3 v1_4 v1_5)]))):=RP [.ret [(false,[tI (cg v1_5 v3_0 (GDag.mk v1_0 v1_1 v1_2 v1_3 v1_4 v1_5))])],.b false,.rows ((v3_0++([cg v1_5 v3_0 (GDag.mk v1_0 v1_1 v1_2 v1_3 v1_4 v1_5)])).map etI)] (AV (ψ:=fun k=>E.C k 77 [.one (.s .far () 5 (v1_5.map (GTask.t q0))),.fni 79 [((),[.s .far () 1 (v3_0.map etI)]),((),[tS v1_0,tS v1_1,tI v1_2,tI v1_3,tB v1_4,.s .far () 5 (v1_5.map (GTask.t q0))])]]=some [(false,[tI (cg v1_5 v3_0 (GDag.mk v1_0 v1_1 v1_2 v1_3 v1_4 v1_5))])]) (eV v1_5 v3_0 (GDag.mk v1_0 v1_1 v1_2 v1_3 v1_4 v1_5) h0 h1 h2)<|AC h3<|AC (p:=(((([cg v1_5 v3_0 (GDag.mk v1_0 v1_1 v1_2 v1_3 v1_4 v1_5)]).map etI).drop 0).take (([cg v1_5 v3_0 (GDag.mk v1_0 v1_1 v1_2 v1_3 v1_4 v1_5)]).map etI).length).all (fun r=>r.all T.flat)=true∧((((v3_0.map etI).drop 0).take (v3_0.map etI).length).length+(((([cg v1_5 v3_0 (GDag.mk v1_0 v1_1 v1_2 v1_3 v1_4 v1_5)]).map etI).drop 0).take (([cg v1_5 v3_0 (GDag.mk v1_0 v1_1 v1_2 v1_3 v1_4 v1_5)]).map etI).length).length)*8≤140737488355328∧(((v3_0.map etI).drop 0).take (v3_0.map etI).length).length+(((([cg v1_5 v3_0 (GDag.mk v1_0 v1_1 v1_2 v1_3 v1_4 v1_5)]).map etI).drop 0).take (([cg v1_5 v3_0 (GDag.mk v1_0 v1_1 v1_2 v1_3 v1_4 v1_5)]).map etI).length).length≤4611686018427387904) (by simp only [List.take_length,List.drop_zero];exact H8 (fun x=>rfl) h4)<|AC (p:=(((v3_0.map etI).drop 0).take (v3_0.map etI).length)++(((([cg v1_5 v3_0 (GDag.mk v1_0 v1_1 v1_2 v1_3 v1_4 v1_5)]).map etI).drop 0).take (([cg v1_5 v3_0 (GDag.mk v1_0 v1_1 v1_2 v1_3 v1_4 v1_5)]).map etI).length)=(v3_0++([cg v1_5 v3_0 (GDag.mk v1_0 v1_1 v1_2 v1_3 v1_4 v1_5)])).map etI) (by simp only [List.take_length,List.drop_zero];exact FL)<|AN);exact (ih v1_4 (v3_0++([cg v1_5 v3_0 (GDag.mk v1_0 v1_1 v1_2 v1_3 v1_4 v1_5)]))).mono fun y hy=>by cases y<;>exact KC r hy
noncomputable def mN (x0:GDag):Option ((List Int)) :=
  (gM x0.f0 x0.f1 x0.f2 x0.f3 x0.f5 9223372036854775808 x0.f4 ([])).bind fun y=>match y with
   | .ret w0_2=>(some (w0_2))
theorem C5 {q0:Kd} (x0:GDag):Ans (mN x0) (fun r=>Does E 55 [.agg (GDag.t .far q0 x0)] [(false,[.s .own () 1 (r.map etI)])]):=by
 unfold mN
 refine KF (fun y hy => ?_)
 replace hy:=Bg (q0:=q0) x0.f0 x0.f1 x0.f2 x0.f3 x0.f5 9223372036854775808 x0.f4 ([]) y hy
 cases y with
 | ret w0_2 =>
  have h0:=hy
  exact KB (DP Tryz.f55 [.lp .ret (iX q0 w0_2)] (AL h0<|AN))
def eh (ts:List GTask):Prop:=ts.length≤4∧∀ (i:Nat) (t:GTask),ts[i]?=some t→ar ts t.f0=(i:Int)
def kn (ts:List GTask):Nat→List Int→List Int
 | 0,o=>o
 | k+1,o=>match ez o ts ts 0 with | none=>o | some i=>kn ts k (o++[(i:Int)])
def km (ts:List GTask):List Int:=kn ts ts.length []
def mw (d:GDag):List Int:=km d.f5
theorem Bm {o:List Int} {x:Int}:cr o x=true↔x∈o:=by
 unfold cr
 rw [List.any_eq_true]
 constructor
 ·rintro ⟨y,h,e⟩;rw [beq_iff_eq] at e;subst e;exact h
 ·intro h;exact ⟨x,h,by simp⟩
theorem sa {o:List Int} {ts:List GTask}:∀ {l:List GTask} {i k:Nat},ez o ts l i=some k→∃ t j,k=i+j∧l[j]?=some t∧cr o (ar ts t.f0)=false∧pc ts o t=true
 | [],i,k,h=>by cases h
 | t::l,i,k,h=>by
  unfold ez at h
  split at h
  ·rename_i q
   cases h
   simp only [Bool.and_eq_true,Bool.not_eq_true'] at q
   exact ⟨t,0,rfl,rfl,q.1,q.2⟩
  ·obtain ⟨u,j,h1,h2,h3⟩:=sa h
   exact ⟨u,j+1,by omega,h2,h3⟩
def um (n:Nat) (o:List Int):Nat:=((List.range n).filter fun i:Nat => !cr o (i:Int)).length
theorem yD {α:Type} {p q:α→Bool}:∀ {l:List α},(∀ y,q y=true→p y=true)→(l.filter q).length≤(l.filter p).length
 | [],_=>by simp
 | z::l,h=>by
  have ih:=yD (l:=l) h
  rw [List.filter_cons,List.filter_cons]
  cases a:q z with
  | true=>rw [h z a];simpa using ih
  | false=>cases p z<;>simp<;>omega
theorem yE {α:Type} {p q:α→Bool} {x:α}:∀ {l:List α},(∀ y,q y=true→p y=true)→x∈l→p x=true→q x=false→(l.filter q).length<(l.filter p).length
 | y::l,h,hx,h1,h2=>by
  have le:=yD (l:=l) h
  rw [List.filter_cons,List.filter_cons]
  rcases List.mem_cons.1 hx with rfl | hx
  ·rw [h1,h2];simp;omega
  ·have:=yE (l:=l) h hx h1 h2
   cases a:q y with
   | true=>rw [h y a];simpa using this
   | false=>cases p y<;>simp<;>omega
theorem Gz {n i:Nat} {o:List Int} (hi:i<n) (h:cr o (i:Int)=false):um n (o++[(i:Int)])<um n o:=by
 unfold um
 refine yE (p:=fun i:Nat => !cr o (i:Int)) (q:=fun j:Nat => !cr (o++[(i:Int)]) (j:Int)) (x:=i) (fun y hy => ?_) (List.mem_range.2 hi) (by rw [h];rfl) ?_
 ·rw [Bool.not_eq_true'] at hy ⊢
  rw [← Bool.not_eq_true,Bm] at hy ⊢
  exact fun e=>hy (by simp [e])
 ·have:cr (o++[(i:Int)]) (i:Int)=true:=Bm.2 (by simp)
  rw [this];rfl
theorem HS (n:Nat):um n []=n:=by
 unfold um
 have:(List.range n).filter (fun i:Nat => !cr [] (i:Int))=List.range n:=List.filter_eq_self.2 fun a _=>rfl
 rw [this,List.length_range]
theorem D8 (a b:ByteArray) (c e:Int) (ts:List GTask) (hs:ak.sm ts) (hg:eh ts):∀ (k n:Nat) (o:List Int) (z:Bool),um ts.length o≤k→k<n→o.length+k≤1000→gM a b c e ts n z o=some (.ret (kn ts k o))
 | k,0,o,z,_,hn,_=>by omega
 | k,n+1,o,z,hk,hn,hl=>by
  unfold gM
  rw [if_pos hs,if_pos (show (GDag.mk a b c e z ts).f5.length≤1050000 from hs.1),if_pos (by omega)]
  have hx:cg ts o (GDag.mk a b c e z ts)=match ez o ts ts 0 with | some i=>(i:Int) | none => -1:=rfl
  rw [hx]
  cases q:ez o ts ts 0 with
  | none =>
   have:kn ts k o=o:=by
    cases k with
    | zero=>rfl
    | succ k=>unfold kn;rw [q]
   rw [this];rfl
  | some i =>
   obtain ⟨t,j,h1,h2,h3,h4⟩:=sa q
   have hij:i=j:=by omega
   subst hij
   rw [hg.2 i t h2] at h3
   have hi:i<ts.length:=by
    rcases Nat.lt_or_ge i ts.length with g | g
    ·exact g
    ·rw [List.getElem?_eq_none g] at h2;cases h2
   have less:=Gz hi h3
   obtain ⟨k,rfl⟩:∃ m,k=m+1:=⟨k-1,by omega⟩
   have ih:=D8 a b c e ts hs hg k n (o++[(i:Int)]) z (by omega) (by omega) (by simp;omega)
   simp only
   rw [decide_eq_false (by omega),cond_false,if_pos (by simp;omega),ih]
   conv=>rhs;unfold kn
   rw [q]
theorem GG (d:GDag) (h:ak.sm d) (hg:eh d.f5):mN d=some (mw d):=by
 have hs:ak.sm d.f5:=h.2.2
 unfold mN
 have:=D8 d.f0 d.f1 d.f2 d.f3 d.f5 hs hg d.f5.length 9223372036854775808 [] d.f4 (by rw [HS];exact Nat.le_refl _) (by have:=hg.1;omega) (by have:=hg.1;simp;omega)
 refine (congrArg (Option.bind · _) this).trans rfl
theorem Cy {q0:Kd} (x0:GDag) (h:ak.sm x0) (hg:eh x0.f5):Does E 55 [.agg (GDag.t .far q0 x0)] [(false,[.s .own () 1 ((mw x0).map etI)])]:=by
 exact C5 x0 _ (GG x0 h hg)
inductive sr where
 | x4 (v6:Bool)
def fd (q0:Kd) (v0:List GTask) (v3:List Int) (v4 v5:Int) (v6:Bool) (v7:Int):US:=stL 57 [(0,.one (.s .far () 5 (v0.map (GTask.t q0)))),(3,.one (.s .own () 1 (v3.map etI))),(4,.one (tI v4)),(5,.one (tI v5)),(6,.one (tB v6)),(7,.one (tI v7))]
def gq (q0:Kd) (v0:List GTask) (v3:List Int) (v4 v5:Int) (zv6:Bool):US:=stL 57 [(0,.one (.s .far () 5 (v0.map (GTask.t q0)))),(3,.one (.s .own () 1 (v3.map etI))),(4,.one (tI v4)),(5,.one (tI v5)),(6,.one (tB zv6))]
abbrev kE:US→Exit→US→Prop:=Round E 48 (az Tryz.f48 2)
def zJ {q0:Kd} (v0:List GTask) (v3:List Int) (v4 v5:Int) (v6:Bool) (v7:Int):sr→Prop
 | .x4 zv6=>Loops E 48 (az Tryz.f48 2) (fd q0 v0 v3 v4 v5 v6 v7) (.exit 4) (gq q0 v0 v3 v4 v5 zv6)
noncomputable def et (v0:List GTask) (v3:List Int) (v5:Int):Nat→Bool→Int→Option sr
 | 0,_,_=>none
 | n+1,v6,v7=>match v6 with
  | true=>(aq v0 v5).bind fun g0=>cond (decide (v7<(g0.f4.length:Int)))
   ((aq g0.f4 v7).bind fun g1=>if v0.length≤1050000 then if v3.length≤1050000 then et v0 v3 v5 n (cr v3 (ar v0 g1)) (inc v7) else none else none)
   (some (.x4 v6))
  | false=>(aq v0 v5).bind fun g0=>cond (decide (v7<(g0.f4.length:Int)))
   (et v0 v3 v5 n false (inc v7))
   (some (.x4 v6))
theorem zG {q0:Kd} (v0:List GTask) (v3:List Int) (v4 v5:Int) (n:Nat):∀ (v6:Bool) (v7:Int),Ans (et v0 v3 v5 n v6 v7) (zJ (q0:=q0) v0 v3 v4 v5 v6 v7):=by
 induction n with
 | zero=>intros;exact Ans.none
 | succ n ih =>
  intro v6 v7
  unfold et
  cases v6 with
  | true =>
   refine KF (fun g0 h0 => ?_)
   apply KE<;>intro h1
   ·refine KF (fun g1 h2 => ?_)
    refine KG (fun h3 => ?_)
    refine KG (fun h4 => ?_)
    have r:kE (fd q0 v0 v3 v4 v5 true v7) .normal (fd q0 v0 v3 v4 v5 (cr v3 (ar v0 g1)) (inc v7)):=RP [.row ((GTask.t q0) g0),.val (.int .i64 (g0.f4.length:Int)),.b true,.row ((GTask.t q0) g0),.row (etS g1),.ret [(false,[tI (ar v0 g1)])],.ret [(false,[tB (cr v3 (ar v0 g1))])]] (AR (GTask.t q0) h0<|ALn g0.f4 etS<|AC h1<|AR (GTask.t q0) h0<|AR etS h2<|AV (ψ:=fun k=>E.C k 70 [.one (.s .far () 5 (v0.map (GTask.t q0))),.one (tS g1)]=some [(false,[tI (ar v0 g1)])]) (eJ v0 g1 h3)<|AV (ψ:=fun k=>E.C k 72 [.one (.s .far () 1 (((v3.map etI).drop 0).take (v3.map etI).length)),.one (tI (ar v0 g1))]=some [(false,[tB (cr v3 (ar v0 g1))])]) (KI (by simp only [List.take_length,List.drop_zero]) (o6 v3 (ar v0 g1) h4))<|AN);exact (ih (cr v3 (ar v0 g1)) (inc v7)).mono fun y hy=>by cases y<;>exact KC r hy
   ·exact KB (KD (show kE (fd q0 v0 v3 v4 v5 true v7) (.exit 4) (gq q0 v0 v3 v4 v5 true) from RP [.row ((GTask.t q0) g0),.val (.int .i64 (g0.f4.length:Int)),.b false] (AR (GTask.t q0) h0<|ALn g0.f4 etS<|AC h1<|AN)) (by intro h;cases h))
  | false =>
   refine KF (fun g0 h0 => ?_)
   apply KE<;>intro h1
   ·have r:kE (fd q0 v0 v3 v4 v5 false v7) .normal (fd q0 v0 v3 v4 v5 false (inc v7)):=RP [.row ((GTask.t q0) g0),.val (.int .i64 (g0.f4.length:Int)),.b true] (AR (GTask.t q0) h0<|ALn g0.f4 etS<|AC h1<|AN);exact (ih false (inc v7)).mono fun y hy=>by cases y<;>exact KC r hy
   ·exact KB (KD (show kE (fd q0 v0 v3 v4 v5 false v7) (.exit 4) (gq q0 v0 v3 v4 v5 false) from RP [.row ((GTask.t q0) g0),.val (.int .i64 (g0.f4.length:Int)),.b false] (AR (GTask.t q0) h0<|ALn g0.f4 etS<|AC h1<|AN)) (by intro h;cases h))
inductive sq where
 | x2 (v3:List Int)
def ep (q0:Kd) (v0:List GTask) (v3:List Int) (v4 v5:Int):US:=stL 57 [(0,.one (.s .far () 5 (v0.map (GTask.t q0)))),(3,.one (.s .own () 1 (v3.map etI))),(4,.one (tI v4)),(5,.one (tI v5))]
def md (q0:Kd) (v0:List GTask) (v4:Int) (zv3:List Int):US:=stL 57 [(0,.one (.s .far () 5 (v0.map (GTask.t q0)))),(3,.one (.s .own () 1 (zv3.map etI))),(4,.one (tI v4))]
abbrev kD:US→Exit→US→Prop:=Round E 48 (az Tryz.f48 1)
def zI {q0:Kd} (v0:List GTask) (v3:List Int) (v4 v5:Int):sq→Prop
 | .x2 zv3=>Loops E 48 (az Tryz.f48 1) (ep q0 v0 v3 v4 v5) (.exit 2) (md q0 v0 v4 zv3)
noncomputable def c9 (v0:List GTask):Nat→(List Int)→Int→Option sq
 | 0,_,_=>none
 | n+1,v3,v5=>cond (decide (v5<(v0.length:Int)))
  (if v3.length≤1050000 then cond (cr v3 v5)
   (c9 v0 n v3 (inc v5))
   ((et v0 v3 v5 9223372036854775808 true (0:Int)).bind fun y=>match y with
    | .x4 w0_6=>(match w0_6 with
     | true=>if (v3.length+([v5]).length)*8≤140737488355328∧v3.length+([v5]).length≤4611686018427387904 then c9 v0 n (v3++([v5])) (inc (v0.length:Int)) else none
     | false=>c9 v0 n v3 (inc v5))) else none)
  (some (.x2 v3))
theorem zF {q0:Kd} (v0:List GTask) (v4:Int) (n:Nat):∀ (v3:List Int) (v5:Int),Ans (c9 v0 n v3 v5) (zI (q0:=q0) v0 v3 v4 v5):=by
 induction n with
 | zero=>intros;exact Ans.none
 | succ n ih =>
  intro v3 v5
  unfold c9
  apply KE<;>intro h0
  ·refine KG (fun h1 => ?_)
   apply KE<;>intro h2
   ·have r:kD (ep q0 v0 v3 v4 v5) .normal (ep q0 v0 v3 v4 (inc v5)):=RP [.val (.int .i64 (v0.length:Int)),.b true,rT] (ALn v0 (GTask.t q0)<|AC h0<|AV (ψ:=fun k=>E.C k 72 [.one (.s .far () 1 (((v3.map etI).drop 0).take (v3.map etI).length)),.one (tI v5)]=some [(false,[tB true])]) (KI (by simp only [List.take_length,List.drop_zero]) (KH (o6 v3 v5 h1) (by rw [h2])))<|AN);exact (ih v3 (inc v5)).mono fun y hy=>by cases y<;>exact KC r hy
   ·refine KF (fun y hy => ?_)
    replace hy:=zG (q0:=q0) v0 v3 v4 v5 9223372036854775808 true (0:Int) y hy
    cases y with
    | x4 w0_6 =>
     have h3:=hy
     cases w0_6 with
     | true =>
      refine KG (fun h4 => ?_)
      have r:kD (ep q0 v0 v3 v4 v5) .normal (ep q0 v0 (v3++([v5])) v4 (inc (v0.length:Int))):=RP [.val (.int .i64 (v0.length:Int)),.b true,rF,.lp (.exit 4) (gq q0 v0 v3 v4 v5 true),.rows ((v3++([v5])).map etI),.val (.int .i64 (v0.length:Int))] (ALn v0 (GTask.t q0)<|AC h0<|AV (ψ:=fun k=>E.C k 72 [.one (.s .far () 1 (((v3.map etI).drop 0).take (v3.map etI).length)),.one (tI v5)]=some [(false,[tB false])]) (KI (by simp only [List.take_length,List.drop_zero]) (KH (o6 v3 v5 h1) (by rw [h2])))<|AL h3<|AAp etI (fun _=>rfl) h4<|ALn v0 (GTask.t q0)<|AN);exact (ih (v3++([v5])) (inc (v0.length:Int))).mono fun y hy=>by cases y<;>exact KC r hy
     | false =>
      have r:kD (ep q0 v0 v3 v4 v5) .normal (ep q0 v0 v3 v4 (inc v5)):=RP [.val (.int .i64 (v0.length:Int)),.b true,rF,.lp (.exit 4) (gq q0 v0 v3 v4 v5 false)] (ALn v0 (GTask.t q0)<|AC h0<|AV (ψ:=fun k=>E.C k 72 [.one (.s .far () 1 (((v3.map etI).drop 0).take (v3.map etI).length)),.one (tI v5)]=some [(false,[tB false])]) (KI (by simp only [List.take_length,List.drop_zero]) (KH (o6 v3 v5 h1) (by rw [h2])))<|AL h3<|AN);exact (ih v3 (inc v5)).mono fun y hy=>by cases y<;>exact KC r hy
  ·exact KB (KD (show kD (ep q0 v0 v3 v4 v5) (.exit 2) (md q0 v0 v4 v3) from RP [.val (.int .i64 (v0.length:Int)),.b false] (ALn v0 (GTask.t q0)<|AC h0<|AN)) (by intro h;cases h))
inductive so where
 | x0 (v3:List Int)
def kF (q0:Kd) (v0:List GTask) (v3:List Int) (v4:Int):US:=stL 57 [(0,.one (.s .far () 5 (v0.map (GTask.t q0)))),(3,.one (.s .own () 1 (v3.map etI))),(4,.one (tI v4))]
def mc (q0:Kd) (zv3:List Int):US:=stL 57 [(3,.one (.s .own () 1 (zv3.map etI)))]
abbrev sn:US→Exit→US→Prop:=Round E 48 (az Tryz.f48 0)
def zH {q0:Kd} (v0:List GTask) (v3:List Int) (v4:Int):so→Prop
 | .x0 zv3=>Loops E 48 (az Tryz.f48 0) (kF q0 v0 v3 v4) (.exit 0) (mc q0 zv3)
noncomputable def fe (v0:List GTask):List GTask→Nat→(List Int)→Option so
 | [],i,v3=>some (.x0 v3)
 | hd::rest,i,v3=>(c9 v0 9223372036854775808 v3 (0:Int)).bind fun y=>match y with
  | .x2 w0_3=>(fe v0 rest (i+1) w0_3)
theorem zE {q0:Kd} (v0:List GTask) (rest:List GTask):∀ (i:Nat) (v3:List Int),(v0).drop i=rest→v0.length≤9223372036854775807→Ans (fe v0 rest i v3) (zH (q0:=q0) v0 v3 (i:Int)):=by
 induction rest with
 | nil =>
  intro i v3 hE hl
  have hb:=br hE
  unfold fe
  exact KB (KD (show sn (kF q0 v0 v3 (i:Int)) (.exit 0) (mc q0 v3) from RP [.val (.int .i64 (v0.length:Int)),.b false] (ALn v0 (GTask.t q0)<|AC hb<|AN)) (by intro h;cases h))
 | cons hd rest ih =>
  intro i v3 hE hl
  have hb:=bd hE
  have hw:=be hE hl
  have hE2:=aJ hE
  have hg:=ba hE
  unfold fe
  refine KF (fun y hy => ?_)
  replace hy:=zF (q0:=q0) v0 (i:Int) 9223372036854775808 v3 (0:Int) y hy
  cases y with
  | x2 w0_3 =>
   have h1:=hy
   exact (ih (i+1) w0_3 hE2 hl).mono fun y hy=>by have r:sn (kF q0 v0 v3 (i:Int)) .normal (kF q0 v0 w0_3 (inc (i:Int))):=RP [.val (.int .i64 (v0.length:Int)),.b true,.lp (.exit 2) (md q0 v0 (i:Int) w0_3)] (ALn v0 (GTask.t q0)<|AC hb<|AL h1<|AN);rw [hw] at r;cases y<;>exact KC r hy
noncomputable def me (x0:List GTask):Option ((List Int)) :=
  if x0.length≤9223372036854775807 then (fe x0 x0 0 ([])).bind fun y=>match y with
   | .x0 w0_3=>(some (w0_3)) else none
theorem Cc {q0:Kd} (x0:List GTask):Ans (me x0) (fun r=>Does E 48 [.one (.s .far () 5 (x0.map (GTask.t q0)))] [(false,[.s .own () 1 (r.map etI)])]):=by
 unfold me
 refine KG (fun hl1 => ?_)
 refine KF (fun y hy => ?_)
 replace hy:=zE (q0:=q0) x0 x0 0 ([]) rfl hl1 y hy
 cases y with
 | x0 w0_3 =>
  have h0:=hy
  exact KB (DP Tryz.f48 [.lp (.exit 0) (mc q0 w0_3)] (AL h0<|AN))
theorem B4 (ts:List GTask) (o:List Int) (i:Nat) (t:GTask) (ht:ts.length≤1050000) (ho:o.length≤1050000) (hi:ts[i]?=some t) (hf:t.f4.length≤1050000):∀ (m k n:Nat) (b:Bool),k+m=t.f4.length→m<n →
  et ts o (i:Int) n b (k:Int)=some (.x4 (b&&((t.f4.drop k).all fun x=>cr o (ar ts x))))
 | m,k,0,b,_,hn=>by omega
 | m,k,n+1,b,hk,hn=>by
  have hg:aq ts (i:Int)=some t:=by rw [ex];exact hi
  unfold et
  cases m with
  | zero =>
   have hd:t.f4.drop k=[]:=List.drop_eq_nil_of_le (by omega)
   rw [hd]
   cases b<;>(simp only [hg,Option.bind_some];rw [decide_eq_false (by omega)];rfl)
  | succ m =>
   have hx:∃ x,t.f4[k]?=some x:=⟨t.f4[k]'(by omega),List.getElem?_eq_getElem (by omega)⟩
   obtain ⟨x,hx⟩:=hx
   have hd:t.f4.drop k=x::t.f4.drop (k+1):=by
    rw [List.drop_eq_getElem_cons (by omega:k<t.f4.length)]
    rw [List.getElem?_eq_getElem (by omega)] at hx
    rw [Option.some.inj hx]
   have e:inc (k:Int)=((k+1:Nat):Int):=by rw [m8 _ (by omega) (by omega)];omega
   rw [hd,List.all_cons]
   cases b with
   | false =>
    simp only [hg,Option.bind_some]
    rw [decide_eq_true (by omega),cond_true,e,B4 ts o i t ht ho hi hf m (k+1) n false (by omega) (by omega)];rfl
   | true =>
    have hy:aq t.f4 (k:Int)=some x:=by rw [ex];exact hx
    simp only [hg,Option.bind_some]
    rw [decide_eq_true (by omega),cond_true,hy,Option.bind_some,if_pos ht,if_pos ho,e,B4 ts o i t ht ho hi hf m (k+1) n _ (by omega) (by omega)];rfl
theorem Eb (ts:List GTask) (hs:ak.sm ts) (hg:eh ts) (o:List Int) (ho:o.length≤1000):∀ (m i n:Nat),i+m=ts.length→m+1<n →
  c9 ts n o (i:Int)=some (.x2 (match ez o ts (ts.drop i) i with | some k=>o++[(k:Int)] | none=>o))
 | m,i,0,_,hn=>by omega
 | m,i,n+1,hi,hn=>by
  have h4:=hg.1
  unfold c9
  cases m with
  | zero =>
   have hd:ts.drop i=[]:=List.drop_eq_nil_of_le (by omega)
   rw [hd,decide_eq_false (by omega)];rfl
  | succ m =>
   have hlt:i<ts.length:=by omega
   have ht:ts[i]?=some ts[i]:=List.getElem?_eq_getElem hlt
   have hd:ts.drop i=ts[i]::ts.drop (i+1):=List.drop_eq_getElem_cons hlt
   have hf:ts[i].f4.length≤1050000:=(hs.2 ts[i] (List.getElem_mem _)).2.2.1
   have e:inc (i:Int)=((i+1:Nat):Int):=by rw [m8 _ (by omega) (by omega)];omega
   have hn':=hg.2 i _ ht
   have fr:=B4 ts o i ts[i] hs.1 (by omega) ht hf ts[i].f4.length 0 9223372036854775808 true (by omega) (by omega)
   have ih:=Eb ts hs hg o ho m (i+1) n (by omega) (by omega)
   rw [List.drop_zero,Bool.true_and] at fr
   have fr':et ts o (i:Int) 9223372036854775808 true (0:Int)=some (.x4 (pc ts o ts[i])):=fr
   rw [decide_eq_true (by omega),cond_true,if_pos (by omega),hd,fr',e]
   unfold ez
   rw [hn']
   cases cr o (i:Int) with
   | true=>rw [cond_true,ih];rfl
   | false =>
    rw [cond_false,Option.bind_some]
    cases pc ts o ts[i] with
    | false =>
     simp only [ih];rfl
    | true =>
     have stop:∀ w,c9 ts n w (inc (ts.length:Int))=some (.x2 w):=fun w=>by
      obtain ⟨n,rfl⟩:∃ j,n=j+1:=⟨n-1,by omega⟩
      unfold c9
      rw [m8 _ (by omega) (by omega),decide_eq_false (by omega)];rfl
     simp only [stop]
     rw [if_pos (by simp;omega)];rfl
theorem vD (ts:List GTask) (hs:ak.sm ts) (hg:eh ts):∀ (l:List GTask) (i:Nat) (o:List Int),o.length+l.length≤1000→fe ts l i o=some (.x0 (kn ts l.length o))
 | [],i,o,_=>rfl
 | x::l,i,o,hl=>by
  have h4:=hg.1
  simp only [List.length_cons] at hl
  unfold fe
  have r:=Eb ts hs hg o (by omega) ts.length 0 9223372036854775808 (by omega) (by omega)
  rw [List.drop_zero] at r
  refine (congrArg (Option.bind · _) r).trans ?_
  rw [Option.bind_some]
  simp only [List.length_cons]
  unfold kn
  cases q:ez o ts ts 0 with
  | none =>
   simp only
   rw [vD ts hs hg l (i+1) o (by omega)]
   have:∀ k,kn ts k o=o:=fun k=>by
    cases k with
    | zero=>rfl
    | succ k=>unfold kn;rw [q]
   rw [this]
  | some k =>
   simp only
   exact vD ts hs hg l (i+1) _ (by simp;omega)
theorem IC (ts:List GTask) (hs:ak.sm ts) (hg:eh ts):me ts=some (km ts):=by
 have h4:=hg.1
 unfold me
 rw [if_pos (by omega),vD ts hs hg ts 0 [] (by simp;omega)]
 rfl
theorem Ao {q0:Kd} (x0:List GTask) (h:ak.sm x0) (hg:eh x0):Does E 48 [.one (.s .far () 5 (x0.map (GTask.t q0)))] [(false,[.s .own () 1 ((km x0).map etI)])]:=by
 exact Cc x0 _ (IC x0 h hg)
end Go.Proofs.YtgaiiephdjllkaaGreatDoor.Am
namespace Go.Proofs.YtgaiiephdjllkaaGreatDoor.Am
open Go Go.Proofs Classical
set_option maxRecDepth 100000
set_option linter.unusedVariables false
set_option linter.unusedSimpArgs false
inductive uK where
 | ret (v2:Bool)
 | x0 
def eD (v1_0 v1_1:ByteArray) (v1_2:Int) (v1_3:Bool) (v1_4 v28:List ByteArray) (v29 v30:Int):US:=stL 54 [(1,.box () [tS v1_0,tS v1_1,tI v1_2,tB v1_3,.s .far () 1 (v1_4.map etS)]),(28,.one (.s .far () 1 (v28.map etS))),(29,.one (tI v29)),(30,.one (tI v30))]
def jH (zv2:Bool):US:=stL 54 [(2,.one (tB zv2))]
def nm  : US:=stL 54 []
abbrev kk:US→Exit→US→Prop:=Round E 53 (az Tryz.f53 0)
def C9 (v1_0 v1_1:ByteArray) (v1_2:Int) (v1_3:Bool) (v1_4 v28:List ByteArray) (v29 v30:Int):uK→Prop
 | .ret zv2=>Loops E 53 (az Tryz.f53 0) (eD v1_0 v1_1 v1_2 v1_3 v1_4 v28 v29 v30) .ret (jH zv2)
 | .x0=>Loops E 53 (az Tryz.f53 0) (eD v1_0 v1_1 v1_2 v1_3 v1_4 v28 v29 v30) (.exit 0) (nm)
noncomputable def fm (v1_0:ByteArray) (v1_4:List ByteArray):List ByteArray→Nat→Bool→Option uK
 | [],i,v1_3=>some (.x0)
 | hd::rest,i,v1_3=>cond (hd.toList==v1_0.toList)
  (some (.ret false))
  (cond (decide ((i:Int)>(0:Int)))
   ((aq v1_4 (IntKind.wrap .i64 ((i:Int)-(1:Int)))).bind fun g1=>cond (Op.bytesLess hd.toList g1.toList || hd.toList==g1.toList)
    (some (.ret false))
    (fm v1_0 v1_4 rest (i+1) v1_3))
   (fm v1_0 v1_4 rest (i+1) v1_3))
theorem C8 (v1_0 v1_1:ByteArray) (v1_2:Int) (v1_4 v28:List ByteArray) (rest:List ByteArray):∀ (i:Nat) (v1_3:Bool),(v28).drop i=rest→v28.length≤9223372036854775807→Ans (fm v1_0 v1_4 rest i v1_3) (C9 v1_0 v1_1 v1_2 v1_3 v1_4 v28 (v28.length:Int) (i:Int)):=by
 induction rest with
 | nil =>
  intro i v1_3 hE hl
  have hb:=br hE
  unfold fm
  exact KB (KD (show kk (eD v1_0 v1_1 v1_2 v1_3 v1_4 v28 (v28.length:Int) (i:Int)) (.exit 0) (nm) from RP [.b false] (AC hb<|AN)) (by intro h;cases h))
 | cons hd rest ih =>
  intro i v1_3 hE hl
  have hb:=bd hE
  have hw:=be hE hl
  have hE2:=aJ hE
  have hg:=ba hE
  unfold fm
  apply KE<;>intro h2
  ·exact KB (KD (show kk (eD v1_0 v1_1 v1_2 v1_3 v1_4 v28 (v28.length:Int) (i:Int)) .ret (jH false) from RP [.b true,.row (etS hd),.b true] (AC hb<|AR etS hg<|AC h2<|AN)) (by intro h;cases h))
  ·apply KE<;>intro h3
   ·refine KF (fun g1 h4 => ?_)
    apply KE<;>intro h5
    ·exact KB (KD (show kk (eD v1_0 v1_1 v1_2 v1_3 v1_4 v28 (v28.length:Int) (i:Int)) .ret (jH false) from RP [.b true,.row (etS hd),.b false,.b true,.row (etS g1),.b true] (AC hb<|AR etS hg<|AC h2<|AC h3<|AR etS h4<|AC h5<|AN)) (by intro h;cases h))
    ·exact (ih (i+1) v1_3 hE2 hl).mono fun y hy=>by have r:kk (eD v1_0 v1_1 v1_2 v1_3 v1_4 v28 (v28.length:Int) (i:Int)) .normal (eD v1_0 v1_1 v1_2 v1_3 v1_4 v28 (v28.length:Int) (inc (i:Int))):=RP [.b true,.row (etS hd),.b false,.b true,.row (etS g1),.b false] (AC hb<|AR etS hg<|AC h2<|AC h3<|AR etS h4<|AC h5<|AN);rw [hw] at r;cases y<;>exact KC r hy
   ·exact (ih (i+1) v1_3 hE2 hl).mono fun y hy=>by have r:kk (eD v1_0 v1_1 v1_2 v1_3 v1_4 v28 (v28.length:Int) (i:Int)) .normal (eD v1_0 v1_1 v1_2 v1_3 v1_4 v28 (v28.length:Int) (inc (i:Int))):=RP [.b true,.row (etS hd),.b false,.b false] (AC hb<|AR etS hg<|AC h2<|AC h3<|AN);rw [hw] at r;cases y<;>exact KC r hy
noncomputable def nN (x0:GTask):Option (Bool) :=
  if x0.f0.size≤2000000 then cond (dB x0.f0)
   (cond ((bM x0.f1)==(0:Int))
    (some (false))
    (cond (ag x0.f2 (0:Int) (3:Int))
     (cond (decide ((x0.f4.length:Int)>(4:Int)))
      (some (false))
      (if x0.f4.length≤9223372036854775807 then (fm x0.f0 x0.f4 x0.f4 0 x0.f3).bind fun y=>match y with
       | .ret w0_2=>(some (w0_2))
       | .x0=>(some (true)) else none))
     (some (false))))
   (some (false)) else none
theorem E8 (x0:GTask):Ans (nN x0) (fun r=>Does E 53 [.agg (GTask.t .far x0)] [(false,[tB r])]):=by
 unfold nN
 refine KG (fun h0 => ?_)
 apply KE<;>intro h1
 ·apply KE<;>intro h2
  ·exact KB (DP Tryz.f53 [rT,.ret [(false,[tI (bM x0.f1)])],.b true] (AD (KJ (cQ x0.f0 h0) h1)<|AD (ja x0.f1)<|AC h2<|AN))
  ·apply KE<;>intro h3
   ·apply KE<;>intro h4
    ·exact KB (DP Tryz.f53 [rT,.ret [(false,[tI (bM x0.f1)])],.b false,rT,.val (.int .i64 (x0.f4.length:Int)),.b true] (AD (KJ (cQ x0.f0 h0) h1)<|AD (ja x0.f1)<|AC h2<|AD (KJ (ax x0.f2 (0:Int) (3:Int)) h3)<|ALn x0.f4 etS<|AC h4<|AN))
    ·refine KG (fun hl5 => ?_)
     refine KF (fun y hy => ?_)
     replace hy:=C8 x0.f0 x0.f1 x0.f2 x0.f4 x0.f4 x0.f4 0 x0.f3 rfl hl5 y hy
     cases y with
     | ret w0_2 =>
      have h5:=hy
      exact KB (DP Tryz.f53 [rT,.ret [(false,[tI (bM x0.f1)])],.b false,rT,.val (.int .i64 (x0.f4.length:Int)),.b false,.val (.int .i64 (x0.f4.length:Int)),.lp .ret (jH w0_2)] (AD (KJ (cQ x0.f0 h0) h1)<|AD (ja x0.f1)<|AC h2<|AD (KJ (ax x0.f2 (0:Int) (3:Int)) h3)<|ALn x0.f4 etS<|AC h4<|ALn x0.f4 etS<|AL h5<|AN))
     | x0 =>
      have h5:=hy
      exact KB (DP Tryz.f53 [rT,.ret [(false,[tI (bM x0.f1)])],.b false,rT,.val (.int .i64 (x0.f4.length:Int)),.b false,.val (.int .i64 (x0.f4.length:Int)),.lp (.exit 0) (nm)] (AD (KJ (cQ x0.f0 h0) h1)<|AD (ja x0.f1)<|AC h2<|AD (KJ (ax x0.f2 (0:Int) (3:Int)) h3)<|ALn x0.f4 etS<|AC h4<|ALn x0.f4 etS<|AL h5<|AN))
   ·exact KB (DP Tryz.f53 [rT,.ret [(false,[tI (bM x0.f1)])],.b false,rF] (AD (KJ (cQ x0.f0 h0) h1)<|AD (ja x0.f1)<|AC h2<|AD (KJ (ax x0.f2 (0:Int) (3:Int)) h3)<|AN))
 ·exact KB (DP Tryz.f53 [rF] (AD (KJ (cQ x0.f0 h0) h1)<|AN))
inductive ub where
 | ret (v4:Bool)
 | x0 
def bz (q0:Kd) (v0:List GTask) (v5_0 v5_1:ByteArray) (v5_2:Int) (v5_3:Bool) (v5_4:List ByteArray) (v6:Int):US:=stL 78 [(0,.one (.s .far () 5 (v0.map (GTask.t q0)))),(5,.box () [tS v5_0,tS v5_1,tI v5_2,tB v5_3,.s .far () 1 (v5_4.map etS)]),(6,.one (tI v6))]
def dv (q0:Kd) (zv4:Bool):US:=stL 78 [(4,.one (tB zv4))]
def jR (q0:Kd)  : US:=stL 78 []
abbrev cG:US→Exit→US→Prop:=Round E 47 (az Tryz.f47 0)
def Ce {q0:Kd} (v0:List GTask) (v5_0 v5_1:ByteArray) (v5_2:Int) (v5_3:Bool) (v5_4:List ByteArray) (v6:Int):ub→Prop
 | .ret zv4=>Loops E 47 (az Tryz.f47 0) (bz q0 v0 v5_0 v5_1 v5_2 v5_3 v5_4 v6) .ret (dv q0 zv4)
 | .x0=>Loops E 47 (az Tryz.f47 0) (bz q0 v0 v5_0 v5_1 v5_2 v5_3 v5_4 v6) (.exit 0) (jR q0)
theorem xP {q0:Kd} (v0:List GTask) (v5_0 v5_1:ByteArray) (v5_2:Int) (v5_3:Bool) (v5_4:List ByteArray) (v6:Int) (g0:ByteArray) (h0:(decide (v6<(v5_4.length:Int)))=true) (h1:aq v5_4 v6=some g0) (h2:v0.length≤1050000) (h3:(decide ((ar v0 g0)<(0:Int)))=true):cG (bz q0 v0 v5_0 v5_1 v5_2 v5_3 v5_4 v6) .ret (dv q0 false) :=
 RP [.val (.int .i64 (v5_4.length:Int)),.b true,.row (etS g0),.ret [(false,[tI (ar v0 g0)])],.b true] (ALn v5_4 etS<|AC h0<|AR etS h1<|AV (ψ:=fun k=>E.C k 70 [.one (.s .far () 5 (v0.map (GTask.t q0))),.one (tS g0)]=some [(false,[tI (ar v0 g0)])]) (eJ v0 g0 h2)<|AC h3<|AN)
theorem xQ {q0:Kd} (v0:List GTask) (v5_0 v5_1:ByteArray) (v5_2:Int) (v5_3:Bool) (v5_4:List ByteArray) (v6:Int) (g0:ByteArray) (h0:(decide (v6<(v5_4.length:Int)))=true) (h1:aq v5_4 v6=some g0) (h2:v0.length≤1050000) (h3:(decide ((ar v0 g0)<(0:Int)))=false) (h4:(g0.toList==v5_0.toList)=true):cG (bz q0 v0 v5_0 v5_1 v5_2 v5_3 v5_4 v6) .ret (dv q0 false) :=
 RP [.val (.int .i64 (v5_4.length:Int)),.b true,.row (etS g0),.ret [(false,[tI (ar v0 g0)])],.b false,.row (etS g0),.b true] (ALn v5_4 etS<|AC h0<|AR etS h1<|AV (ψ:=fun k=>E.C k 70 [.one (.s .far () 5 (v0.map (GTask.t q0))),.one (tS g0)]=some [(false,[tI (ar v0 g0)])]) (eJ v0 g0 h2)<|AC h3<|AR etS h1<|AC h4<|AN)
theorem xR {q0:Kd} (v0:List GTask) (v5_0 v5_1:ByteArray) (v5_2:Int) (v5_3:Bool) (v5_4:List ByteArray) (v6:Int) (g0 g1:ByteArray) (h0:(decide (v6<(v5_4.length:Int)))=true) (h1:aq v5_4 v6=some g0) (h2:v0.length≤1050000) (h3:(decide ((ar v0 g0)<(0:Int)))=false) (h4:(g0.toList==v5_0.toList)=false) (h5:(decide (v6>(0:Int)))=true) (h6:aq v5_4 (IntKind.wrap .i64 (v6-(1:Int)))=some g1) (h7:(!Op.bytesLess g1.toList g0.toList)=true):cG (bz q0 v0 v5_0 v5_1 v5_2 v5_3 v5_4 v6) .ret (dv q0 false) :=
 RP [.val (.int .i64 (v5_4.length:Int)),.b true,.row (etS g0),.ret [(false,[tI (ar v0 g0)])],.b false,.row (etS g0),.b false,.b true,.row (etS g1),.row (etS g0),.b true] (ALn v5_4 etS<|AC h0<|AR etS h1<|AV (ψ:=fun k=>E.C k 70 [.one (.s .far () 5 (v0.map (GTask.t q0))),.one (tS g0)]=some [(false,[tI (ar v0 g0)])]) (eJ v0 g0 h2)<|AC h3<|AR etS h1<|AC h4<|AC h5<|AR etS h6<|AR etS h1<|AC h7<|AN)
theorem xS {q0:Kd} (v0:List GTask) (v5_0 v5_1:ByteArray) (v5_2:Int) (v5_3:Bool) (v5_4:List ByteArray) (v6:Int) (g0 g1:ByteArray) (h0:(decide (v6<(v5_4.length:Int)))=true) (h1:aq v5_4 v6=some g0) (h2:v0.length≤1050000) (h3:(decide ((ar v0 g0)<(0:Int)))=false) (h4:(g0.toList==v5_0.toList)=false) (h5:(decide (v6>(0:Int)))=true) (h6:aq v5_4 (IntKind.wrap .i64 (v6-(1:Int)))=some g1) (h7:(!Op.bytesLess g1.toList g0.toList)=false):cG (bz q0 v0 v5_0 v5_1 v5_2 v5_3 v5_4 v6) .normal (bz q0 v0 v5_0 v5_1 v5_2 v5_3 v5_4 (inc v6)) :=
 RP [.val (.int .i64 (v5_4.length:Int)),.b true,.row (etS g0),.ret [(false,[tI (ar v0 g0)])],.b false,.row (etS g0),.b false,.b true,.row (etS g1),.row (etS g0),.b false] (ALn v5_4 etS<|AC h0<|AR etS h1<|AV (ψ:=fun k=>E.C k 70 [.one (.s .far () 5 (v0.map (GTask.t q0))),.one (tS g0)]=some [(false,[tI (ar v0 g0)])]) (eJ v0 g0 h2)<|AC h3<|AR etS h1<|AC h4<|AC h5<|AR etS h6<|AR etS h1<|AC h7<|AN)
theorem xT {q0:Kd} (v0:List GTask) (v5_0 v5_1:ByteArray) (v5_2:Int) (v5_3:Bool) (v5_4:List ByteArray) (v6:Int) (g0:ByteArray) (h0:(decide (v6<(v5_4.length:Int)))=true) (h1:aq v5_4 v6=some g0) (h2:v0.length≤1050000) (h3:(decide ((ar v0 g0)<(0:Int)))=false) (h4:(g0.toList==v5_0.toList)=false) (h5:(decide (v6>(0:Int)))=false):cG (bz q0 v0 v5_0 v5_1 v5_2 v5_3 v5_4 v6) .normal (bz q0 v0 v5_0 v5_1 v5_2 v5_3 v5_4 (inc v6)) :=
 RP [.val (.int .i64 (v5_4.length:Int)),.b true,.row (etS g0),.ret [(false,[tI (ar v0 g0)])],.b false,.row (etS g0),.b false,.b false] (ALn v5_4 etS<|AC h0<|AR etS h1<|AV (ψ:=fun k=>E.C k 70 [.one (.s .far () 5 (v0.map (GTask.t q0))),.one (tS g0)]=some [(false,[tI (ar v0 g0)])]) (eJ v0 g0 h2)<|AC h3<|AR etS h1<|AC h4<|AC h5<|AN)
theorem xU {q0:Kd} (v0:List GTask) (v5_0 v5_1:ByteArray) (v5_2:Int) (v5_3:Bool) (v5_4:List ByteArray) (v6:Int) (h0:(decide (v6<(v5_4.length:Int)))=false):cG (bz q0 v0 v5_0 v5_1 v5_2 v5_3 v5_4 v6) (.exit 0) (jR q0) :=
 RP [.val (.int .i64 (v5_4.length:Int)),.b false] (ALn v5_4 etS<|AC h0<|AN)
noncomputable def eQ (v0:List GTask) (v5_0:ByteArray) (v5_4:List ByteArray):List ByteArray→Nat→Bool→Option ub
 | [],i,v5_3=>some (.x0)
 | hd::rest,i,v5_3=>if v0.length≤1050000 then cond (decide ((ar v0 hd)<(0:Int)))
  (some (.ret false))
  (cond (hd.toList==v5_0.toList)
   (some (.ret false))
   (cond (decide ((i:Int)>(0:Int)))
    ((aq v5_4 (IntKind.wrap .i64 ((i:Int)-(1:Int)))).bind fun g1=>cond (!Op.bytesLess g1.toList hd.toList)
     (some (.ret false))
     (eQ v0 v5_0 v5_4 rest (i+1) v5_3))
    (eQ v0 v5_0 v5_4 rest (i+1) v5_3))) else none
theorem Cd {q0:Kd} (v0:List GTask) (v5_0 v5_1:ByteArray) (v5_2:Int) (v5_4:List ByteArray) (rest:List ByteArray):∀ (i:Nat) (v5_3:Bool),(v5_4).drop i=rest→v5_4.length≤9223372036854775807→Ans (eQ v0 v5_0 v5_4 rest i v5_3) (Ce (q0:=q0) v0 v5_0 v5_1 v5_2 v5_3 v5_4 (i:Int)):=by
 induction rest with
 | nil =>
  intro i v5_3 hE hl
  have hb:=br hE
  unfold eQ
  exact KB (KD (show cG (bz q0 v0 v5_0 v5_1 v5_2 v5_3 v5_4 (i:Int)) (.exit 0) (jR q0) from xU (q0:=q0) v0 v5_0 v5_1 v5_2 v5_3 v5_4 (i:Int) hb) (by intro h;cases h))
 | cons hd rest ih =>
  intro i v5_3 hE hl
  have hb:=bd hE
  have hw:=be hE hl
  have hE2:=aJ hE
  have hg:=ba hE
  unfold eQ
  refine KG (fun h2 => ?_)
  apply KE<;>intro h3
  ·exact KB (KD (show cG (bz q0 v0 v5_0 v5_1 v5_2 v5_3 v5_4 (i:Int)) .ret (dv q0 false) from xP (q0:=q0) v0 v5_0 v5_1 v5_2 v5_3 v5_4 (i:Int) hd hb hg h2 h3) (by intro h;cases h))
  ·apply KE<;>intro h4
   ·exact KB (KD (show cG (bz q0 v0 v5_0 v5_1 v5_2 v5_3 v5_4 (i:Int)) .ret (dv q0 false) from xQ (q0:=q0) v0 v5_0 v5_1 v5_2 v5_3 v5_4 (i:Int) hd hb hg h2 h3 h4) (by intro h;cases h))
   ·apply KE<;>intro h5
    ·refine KF (fun g1 h6 => ?_)
     apply KE<;>intro h7
     ·exact KB (KD (show cG (bz q0 v0 v5_0 v5_1 v5_2 v5_3 v5_4 (i:Int)) .ret (dv q0 false) from xR (q0:=q0) v0 v5_0 v5_1 v5_2 v5_3 v5_4 (i:Int) hd g1 hb hg h2 h3 h4 h5 h6 h7) (by intro h;cases h))
     ·exact (ih (i+1) v5_3 hE2 hl).mono fun y hy=>by have r:cG (bz q0 v0 v5_0 v5_1 v5_2 v5_3 v5_4 (i:Int)) .normal (bz q0 v0 v5_0 v5_1 v5_2 v5_3 v5_4 (inc (i:Int))):=xS (q0:=q0) v0 v5_0 v5_1 v5_2 v5_3 v5_4 (i:Int) hd g1 hb hg h2 h3 h4 h5 h6 h7;rw [hw] at r;cases y<;>exact KC r hy
    ·exact (ih (i+1) v5_3 hE2 hl).mono fun y hy=>by have r:cG (bz q0 v0 v5_0 v5_1 v5_2 v5_3 v5_4 (i:Int)) .normal (bz q0 v0 v5_0 v5_1 v5_2 v5_3 v5_4 (inc (i:Int))):=xT (q0:=q0) v0 v5_0 v5_1 v5_2 v5_3 v5_4 (i:Int) hd hb hg h2 h3 h4 h5;rw [hw] at r;cases y<;>exact KC r hy
noncomputable def mV (x0:List GTask) (x1:Int):Option (Bool) :=
  (aq x0 x1).bind fun g0=>if g0.f0.size≤2000000 then cond (dB g0.f0)
   (if x0.length≤1050000 then cond ((ar x0 g0.f0) != x1)
    (some (false))
    (cond ((bM g0.f1)==(0:Int))
     (some (false))
     (cond (ag g0.f2 (0:Int) (3:Int))
      (if g0.f4.length≤9223372036854775807 then (eQ x0 g0.f0 g0.f4 g0.f4 0 g0.f3).bind fun y=>match y with
       | .ret w0_4=>(some (w0_4))
       | .x0=>(some (true)) else none)
      (some (false)))) else none)
   (some (false)) else none
theorem Dt {q0:Kd} (x0:List GTask) (x1:Int):Ans (mV x0 x1) (fun r=>Does E 47 [.one (.s .far () 5 (x0.map (GTask.t q0))),.one (tI x1)] [(false,[tB r])]):=by
 unfold mV
 refine KF (fun g0 h0 => ?_)
 refine KG (fun h1 => ?_)
 apply KE<;>intro h2
 ·refine KG (fun h3 => ?_)
  apply KE<;>intro h4
  ·exact KB (DP Tryz.f47 [.row ((GTask.t q0) g0),rT,.ret [(false,[tI (ar x0 g0.f0)])],.b true] (AR (GTask.t q0) h0<|AD (KJ (cv g0.f0 h1) h2)<|AV (ψ:=fun k=>E.C k 70 [.one (.s .far () 5 (x0.map (GTask.t q0))),.one (tS g0.f0)]=some [(false,[tI (ar x0 g0.f0)])]) (eJ x0 g0.f0 h3)<|AC h4<|AN))
  ·apply KE<;>intro h5
   ·exact KB (DP Tryz.f47 [.row ((GTask.t q0) g0),rT,.ret [(false,[tI (ar x0 g0.f0)])],.b false,.ret [(false,[tI (bM g0.f1)])],.b true] (AR (GTask.t q0) h0<|AD (KJ (cv g0.f0 h1) h2)<|AV (ψ:=fun k=>E.C k 70 [.one (.s .far () 5 (x0.map (GTask.t q0))),.one (tS g0.f0)]=some [(false,[tI (ar x0 g0.f0)])]) (eJ x0 g0.f0 h3)<|AC h4<|AD (lr g0.f1)<|AC h5<|AN))
   ·apply KE<;>intro h6
    ·refine KG (fun hl5 => ?_)
     refine KF (fun y hy => ?_)
     replace hy:=Cd (q0:=q0) x0 g0.f0 g0.f1 g0.f2 g0.f4 g0.f4 0 g0.f3 rfl hl5 y hy
     cases y with
     | ret w0_4 =>
      have h7:=hy
      exact KB (DP Tryz.f47 [.row ((GTask.t q0) g0),rT,.ret [(false,[tI (ar x0 g0.f0)])],.b false,.ret [(false,[tI (bM g0.f1)])],.b false,rT,.lp .ret (dv q0 w0_4)] (AR (GTask.t q0) h0<|AD (KJ (cv g0.f0 h1) h2)<|AV (ψ:=fun k=>E.C k 70 [.one (.s .far () 5 (x0.map (GTask.t q0))),.one (tS g0.f0)]=some [(false,[tI (ar x0 g0.f0)])]) (eJ x0 g0.f0 h3)<|AC h4<|AD (lr g0.f1)<|AC h5<|AD (KJ (ah g0.f2 (0:Int) (3:Int)) h6)<|AL h7<|AN))
     | x0 =>
      have h7:=hy
      exact KB (DP Tryz.f47 [.row ((GTask.t q0) g0),rT,.ret [(false,[tI (ar x0 g0.f0)])],.b false,.ret [(false,[tI (bM g0.f1)])],.b false,rT,.lp (.exit 0) (jR q0)] (AR (GTask.t q0) h0<|AD (KJ (cv g0.f0 h1) h2)<|AV (ψ:=fun k=>E.C k 70 [.one (.s .far () 5 (x0.map (GTask.t q0))),.one (tS g0.f0)]=some [(false,[tI (ar x0 g0.f0)])]) (eJ x0 g0.f0 h3)<|AC h4<|AD (lr g0.f1)<|AC h5<|AD (KJ (ah g0.f2 (0:Int) (3:Int)) h6)<|AL h7<|AN))
    ·exact KB (DP Tryz.f47 [.row ((GTask.t q0) g0),rT,.ret [(false,[tI (ar x0 g0.f0)])],.b false,.ret [(false,[tI (bM g0.f1)])],.b false,rF] (AR (GTask.t q0) h0<|AD (KJ (cv g0.f0 h1) h2)<|AV (ψ:=fun k=>E.C k 70 [.one (.s .far () 5 (x0.map (GTask.t q0))),.one (tS g0.f0)]=some [(false,[tI (ar x0 g0.f0)])]) (eJ x0 g0.f0 h3)<|AC h4<|AD (lr g0.f1)<|AC h5<|AD (KJ (ah g0.f2 (0:Int) (3:Int)) h6)<|AN))
 ·exact KB (DP Tryz.f47 [.row ((GTask.t q0) g0),rF] (AR (GTask.t q0) h0<|AD (KJ (cv g0.f0 h1) h2)<|AN))
def asc (self:ByteArray):List ByteArray→Option ByteArray→Bool
 | [],_=>true
 | x::l,p => !(x.toList==self.toList)&&(match p with | some y=>Op.bytesLess y.toList x.toList | none=>true)&&asc self l (some x)
theorem By:∀ a b:List UInt8,(Op.bytesLess a b || a==b) = !Op.bytesLess b a
 | [],[]=>rfl
 | [],_::_=>rfl
 | _::_,[]=>rfl
 | x::a,y::b=>by
  have ih:=By a b
  unfold Op.bytesLess
  have e:(x::a==y::b)=(x==y&&a==b):=rfl
  rw [e]
  rcases Nat.lt_trichotomy x.toNat y.toNat with h | h | h
  ·have h1:x<y:=UInt8.lt_iff_toNat_lt.2 h
   have h2:¬ y<x:=fun q=>by have:=UInt8.lt_iff_toNat_lt.1 q;omega
   have h3:(y==x)=false:=by rw [beq_eq_false_iff_ne];intro q;subst q;omega
   simp [h1,h2,h3]
  ·have h0:x=y:=UInt8.toNat_inj.1 h
   subst h0
   have h2:¬ x<x:=fun q=>by have:=UInt8.lt_iff_toNat_lt.1 q;omega
   simp only [h2,decide_false,Bool.false_or,beq_self_eq_true,Bool.true_and]
   exact ih
  ·have h1:y<x:=UInt8.lt_iff_toNat_lt.2 h
   have h2:¬ x<y:=fun q=>by have:=UInt8.lt_iff_toNat_lt.1 q;omega
   have h3:(x==y)=false:=by rw [beq_eq_false_iff_ne];intro q;subst q;omega
   simp [h1,h2,h3]
theorem uM:∀ a:List UInt8,Op.bytesLess a a=false
 | []=>rfl
 | x::a=>by
  unfold Op.bytesLess
  have h2:¬ x<x:=fun q=>by have:=UInt8.lt_iff_toNat_lt.1 q;omega
  simp [h2,uM a]
theorem wC:∀ {a b c:List UInt8},Op.bytesLess a b=true→Op.bytesLess b c=true→Op.bytesLess a c=true
 | [],[],_,h,_=>by cases h
 | [],_::_,[],_,h=>by cases h
 | [],_::_,_::_,_,_=>rfl
 | _::_,[],_,h,_=>by cases h
 | _::_,_::_,[],_,h=>by cases h
 | x::a,y::b,z::c,h1,h2=>by
  unfold Op.bytesLess at *
  simp only [Bool.or_eq_true,decide_eq_true_eq,Bool.and_eq_true,beq_iff_eq,UInt8.lt_iff_toNat_lt] at *
  rcases h1 with h1 | ⟨rfl,h1⟩
  ·rcases h2 with h2 | ⟨rfl,h2⟩
   ·exact .inl (by omega)
   ·exact .inl h1
  ·rcases h2 with h2 | ⟨rfl,h2⟩
   ·exact .inl h2
   ·exact .inr ⟨rfl,wC h1 h2⟩
theorem o7 (self:ByteArray):∀ (l:List ByteArray) (p:Option ByteArray),asc self l p=true→(l.map tx).Nodup∧∀ y,p=some y→∀ x∈l,Op.bytesLess (tx y) (tx x)=true
 | [],p,_=>⟨by simp,fun y _ x hx=>by cases hx⟩
 | z::l,p,h=>by
  unfold asc at h
  simp only [Bool.and_eq_true] at h
  obtain ⟨h1,h2⟩:=o7 self l (some z) h.2
  have h3:=h2 z rfl
  refine ⟨?_,fun y e x hx => ?_⟩
  ·rw [List.map_cons,List.nodup_cons]
   refine ⟨fun q => ?_,h1⟩
   obtain ⟨w,hw,e⟩:=List.mem_map.1 q
   have:=h3 w hw
   rw [e,uM] at this
   cases this
  ·subst e
   have h4:Op.bytesLess (tx y) (tx z)=true:=by have:=h.1.2;simp only [xh] at this;exact this
   rcases List.mem_cons.1 hx with rfl | hx
   ·exact h4
   ·exact wC h4 (h3 x hx)
theorem Eg {α:Type} [DecidableEq α]:∀ {l m:List α},l.Nodup→(∀ x∈l,x∈m)→l.length≤m.length
 | [],_,_,_=>Nat.zero_le _
 | x::l,m,h,hm=>by
  rw [List.nodup_cons] at h
  have hx:=hm x (by simp)
  have:=Eg (l:=l) (m:=m.erase x) h.2 fun y hy=>(List.mem_erase_of_ne (fun e=>h.1 (by rw [← e];exact hy))).2 (hm y (by simp [hy]))
  rw [List.length_erase_of_mem hx] at this
  have:0<m.length:=List.length_pos_of_mem hx
  simp only [List.length_cons]
  omega
theorem H9 (self:ByteArray) (aG:List ByteArray) (hl:aG.length≤1050000):∀ (rest:List ByteArray) (i:Nat) (z:Bool),aG.drop i=rest→fm self aG rest i z=some (cond (asc self rest (if i=0 then none else aG[i-1]?)) .x0 (.ret false))
 | [],i,z,_=>rfl
 | x::rest,i,z,h=>by
  have ih:=H9 self aG hl rest (i+1) z (aJ h)
  have hp:(if i+1=0 then none else aG[i+1-1]?)=some x:=by
   rw [if_neg (by omega)]
   show aG[i]?=some x
   rw [← List.head?_drop,h];rfl
  rw [hp] at ih
  unfold fm asc
  rw [ih]
  cases x.toList==self.toList with
  | true=>rfl
  | false =>
   rw [cond_false]
   by_cases q:i=0
   ·subst q
    rw [decide_eq_false (by omega),if_pos rfl,cond_false];rfl
   ·have hi:i-1<aG.length:=by
     rcases Nat.lt_or_ge i aG.length with g | g
     ·omega
     ·rw [List.drop_eq_nil_of_le g] at h;cases h
    have hi2:i≤aG.length:=by
     rcases Nat.lt_or_ge i aG.length with g | g
     ·omega
     ·rw [List.drop_eq_nil_of_le g] at h;cases h
    have hy:aG[i-1]?=some aG[i-1]:=List.getElem?_eq_getElem hi
    have hg:aq aG (IntKind.wrap .i64 ((i:Int)-1))=some aG[i-1]:=by
     rw [di _ (by omega) (by omega),show ((i:Int)-1)=((i-1:Nat):Int) by omega,ex,hy]
    rw [decide_eq_true (by omega),if_neg q,cond_true,hg,Option.bind_some,hy,By]
    simp only [Bool.not_false,Bool.true_and]
    cases Op.bytesLess aG[i-1].toList x.toList<;>rfl
theorem Ia (ts:List GTask) (ht:ts.length≤1050000) (self:ByteArray) (aG:List ByteArray) (hl:aG.length≤1050000):∀ (rest:List ByteArray) (i:Nat) (z:Bool),aG.drop i=rest→eQ ts self aG rest i z=some (cond (asc self rest (if i=0 then none else aG[i-1]?)&&rest.all fun n=>decide (0≤ar ts n)) .x0 (.ret false))
 | [],i,z,_=>rfl
 | x::rest,i,z,h=>by
  have ih:=Ia ts ht self aG hl rest (i+1) z (aJ h)
  have hp:(if i+1=0 then none else aG[i+1-1]?)=some x:=by
   rw [if_neg (by omega)]
   show aG[i]?=some x
   rw [← List.head?_drop,h];rfl
  rw [hp] at ih
  unfold eQ asc
  rw [ih,if_pos ht,List.all_cons]
  by_cases w:ar ts x<0
  ·rw [decide_eq_true w,decide_eq_false (by omega:¬ 0≤ar ts x),Bool.false_and,Bool.and_false];rfl
  ·rw [decide_eq_false w,decide_eq_true (by omega:0≤ar ts x),Bool.true_and,cond_false]
   cases x.toList==self.toList with
   | true=>rfl
   | false =>
    rw [cond_false]
    by_cases q:i=0
    ·subst q
     rw [decide_eq_false (by omega),if_pos rfl,cond_false];rfl
    ·have hi:i-1<aG.length:=by
      rcases Nat.lt_or_ge i aG.length with g | g
      ·omega
      ·rw [List.drop_eq_nil_of_le g] at h;cases h
     have hi2:i≤aG.length:=by
      rcases Nat.lt_or_ge i aG.length with g | g
      ·omega
      ·rw [List.drop_eq_nil_of_le g] at h;cases h
     have hy:aG[i-1]?=some aG[i-1]:=List.getElem?_eq_getElem hi
     have hg:aq aG (IntKind.wrap .i64 ((i:Int)-1))=some aG[i-1]:=by
      rw [di _ (by omega) (by omega),show ((i:Int)-1)=((i-1:Nat):Int) by omega,ex,hy]
     rw [decide_eq_true (by omega),if_neg q,cond_true,hg,Option.bind_some,hy]
     simp only [Bool.not_false,Bool.true_and]
     cases Op.bytesLess aG[i-1].toList x.toList<;>rfl
noncomputable def oQ (t:GTask):Bool:=dB t.f0&&((bM t.f1 != 0)&&(ag t.f2 0 3&&(decide (t.f4.length≤4)&&asc t.f0 t.f4 none)))
noncomputable def gF (ts:List GTask) (i:Int) (t:GTask):Bool:=dB t.f0&&((ar ts t.f0==i)&&((bM t.f1 != 0)&&(ag t.f2 0 3&&(asc t.f0 t.f4 none&&t.f4.all fun n=>decide (0≤ar ts n)))))
noncomputable def ll (ts:List GTask) (i:Int):Bool:=match aq ts i with | some t=>gF ts i t | none=>false
theorem Ef {t:GTask} (h:ak.sm t):t.f0.size≤2000000:=by
 have:t.f0.size≤1050000:=h.1
 omega
theorem H4 (t:GTask) (h:ak.sm t):nN t=some (oQ t):=by
 have h4:t.f4.length≤1050000:=h.2.2.1
 unfold nN oQ
 rw [if_pos (Ef h)]
 cases dB t.f0 with
 | false=>rfl
 | true =>
  have e:(bM t.f1 != 0) = !(bM t.f1==0):=rfl
  rw [cond_true,Bool.true_and,e]
  cases bM t.f1==0 with
  | true=>rfl
  | false =>
   rw [cond_false,Bool.not_false,Bool.true_and]
   cases ag t.f2 0 3 with
   | false=>rfl
   | true =>
    rw [cond_true,Bool.true_and]
    by_cases q:t.f4.length≤4
    ·rw [decide_eq_false (by omega),cond_false,decide_eq_true q,if_pos (by omega),H9 t.f0 t.f4 h4 t.f4 0 t.f3 rfl,if_pos rfl,Bool.true_and]
     cases asc t.f0 t.f4 none<;>rfl
    ·rw [decide_eq_true (by omega),decide_eq_false q];rfl
theorem DG (ts:List GTask) (i:Int) (h:ak.sm ts) (hi:0≤i∧i<(ts.length:Int)):mV ts i=some (ll ts i):=by
 obtain ⟨t,hg,hm⟩:=eY hi
 have ht:=h.2 t hm
 have h4:t.f4.length≤1050000:=ht.2.2.1
 unfold mV ll gF
 rw [hg,Option.bind_some,if_pos (Ef ht)]
 simp only
 cases dB t.f0 with
 | false=>rfl
 | true =>
  have e1:(ar ts t.f0 != i) = !(ar ts t.f0==i):=rfl
  have e:(bM t.f1 != 0) = !(bM t.f1==0):=rfl
  rw [cond_true,Bool.true_and,if_pos h.1,e1,e]
  cases ar ts t.f0==i with
  | false=>rfl
  | true =>
   rw [Bool.not_true,cond_false,Bool.true_and]
   cases bM t.f1==0 with
   | true=>rfl
   | false =>
    rw [cond_false,Bool.not_false,Bool.true_and]
    cases ag t.f2 0 3 with
    | false=>rfl
    | true =>
     rw [cond_true,Bool.true_and,if_pos (by omega),Ia ts h.1 t.f0 t.f4 h4 t.f4 0 t.f3 rfl,if_pos rfl]
     cases (asc t.f0 t.f4 none&&t.f4.all fun n=>decide (0≤ar ts n))<;>rfl
theorem FD (ts:List GTask) (h4:ts.length≤4) (i:Int) (t:GTask):gF ts i t=(oQ t&&((ar ts t.f0==i)&&t.f4.all fun n=>decide (0≤ar ts n))):=by
 unfold gF oQ
 by_cases q:asc t.f0 t.f4 none=true∧(t.f4.all fun n=>decide (0≤ar ts n))=true
 ·have hl:t.f4.length≤4:=by
   have:=Eg (l:=t.f4.map tx) (m:=ts.map fun u=>tx u.f0) (o7 t.f0 t.f4 none q.1).1 (fun x hx=>by
    obtain ⟨n,hn,rfl⟩:=List.mem_map.1 hx
    have:=List.all_eq_true.1 q.2 n hn
    obtain ⟨u,hu,e⟩:=DF (of_decide_eq_true this)
    exact List.mem_map.2 ⟨u,hu,e⟩)
   simp only [List.length_map] at this
   omega
  rw [decide_eq_true hl,q.1,q.2]
  cases dB t.f0<;>cases ar ts t.f0==i<;>cases bM t.f1 != 0<;>cases ag t.f2 0 3<;>rfl
 ·have hf:(asc t.f0 t.f4 none&&t.f4.all fun n=>decide (0≤ar ts n))=false:=by
   rw [← Bool.not_eq_true,Bool.and_eq_true];exact q
  rw [hf]
  revert hf
  generalize (t.f4.all fun n=>decide (0≤ar ts n))=B
  generalize asc t.f0 t.f4 none=A
  generalize decide (t.f4.length≤4)=C
  intro hf
  cases A<;>cases B<;>simp at hf<;>cases dB t.f0<;>cases ar ts t.f0==i<;>cases bM t.f1 != 0<;>cases ag t.f2 0 3<;>cases C<;>rfl
theorem nG (x0:GTask) (h:ak.sm x0):Does E 53 [.agg (GTask.t .far x0)] [(false,[tB (oQ x0)])]:=by
 exact E8 x0 _ (H4 x0 h)
theorem uv {q0:Kd} (x0:List GTask) (x1:Int) (h:ak.sm x0) (hi:0≤x1∧x1<(x0.length:Int)):Does E 47 [.one (.s .far () 5 (x0.map (GTask.t q0))),.one (tI x1)] [(false,[tB (ll x0 x1)])]:=by
 exact Dt x0 x1 _ (DG x0 x1 h hi)
noncomputable def nM (x0:ByteArray):Option (Bool) :=
  cond ((au x0).2)
   (if ak.sm ((au x0).1) then some (((aZ ((au x0).1)).1).toList==x0.toList) else none)
   (if ak.sm ((au x0).1) then some (false) else none)
theorem E2 (x0:ByteArray):Ans (nM x0) (fun r=>Does E 51 [.one (tS x0)] [(false,[tB r])]):=by
 unfold nM
 apply KE<;>intro h0
 ·refine KG (fun h1 => ?_)
  exact KB (DP Tryz.f51 [.ret [(true,GCron.t .own ((au x0).1)),(false,[tB true])],.ret [(false,[tS ((aZ ((au x0).1)).1)]),(false,[tB ((aZ ((au x0).1)).2)])]] (AD (oV x0 h0)<|AD (sI ((au x0).1) h1)<|AN))
 ·refine KG (fun h1 => ?_)
  exact KB (DP Tryz.f51 [.ret [(true,GCron.t .own ((au x0).1)),(false,[tB false])],.ret [(false,[tS ((aZ ((au x0).1)).1)]),(false,[tB ((aZ ((au x0).1)).2)])]] (AD (oV x0 h0)<|AD (sI ((au x0).1) h1)<|AN))
noncomputable def ib (s:ByteArray):Bool:=(au s).2&&((aZ (au s).1).1.toList==s.toList)
theorem Ho (s:ByteArray):nM s=some (ib s):=by
 unfold nM ib
 simp only [BI s,if_true]
 cases (au s).2<;>rfl
theorem hZ (x0:ByteArray):Does E 51 [.one (tS x0)] [(false,[tB (ib x0)])]:=by
 exact E2 x0 _ (Ho x0)
inductive wP where
 | ret (v2:Bool)
 | x0 
def jM (q0:Kd) (v1_0 v1_1:ByteArray) (v1_2 v1_3:Int) (v1_4:Bool) (v1_5:List GTask) (v7:Int):US:=stL 74 [(1,.box () [tS v1_0,tS v1_1,tI v1_2,tI v1_3,tB v1_4,.s .far () 5 (v1_5.map (GTask.t q0))]),(7,.one (tI v7))]
def nu (q0:Kd) (zv2:Bool):US:=stL 74 [(2,.one (tB zv2))]
def oI (q0:Kd) (v1_0 v1_1:ByteArray) (v1_2 v1_3:Int) (v1_4:Bool) (v1_5:List GTask):US:=stL 74 [(1,.box () [tS v1_0,tS v1_1,tI v1_2,tI v1_3,tB v1_4,.s .far () 5 (v1_5.map (GTask.t q0))])]
abbrev rG:US→Exit→US→Prop:=Round E 23 (az Tryz.f23 0)
def Fp {q0:Kd} (v1_0 v1_1:ByteArray) (v1_2 v1_3:Int) (v1_4:Bool) (v1_5:List GTask) (v7:Int):wP→Prop
 | .ret zv2=>Loops E 23 (az Tryz.f23 0) (jM q0 v1_0 v1_1 v1_2 v1_3 v1_4 v1_5 v7) .ret (nu q0 zv2)
 | .x0=>Loops E 23 (az Tryz.f23 0) (jM q0 v1_0 v1_1 v1_2 v1_3 v1_4 v1_5 v7) (.exit 0) (oI q0 v1_0 v1_1 v1_2 v1_3 v1_4 v1_5)
noncomputable def iq (v1_5:List GTask):List GTask→Nat→Bool→Option wP
 | [],i,v1_4=>some (.x0)
 | hd::rest,i,v1_4=>if ak.sm v1_5 then if 0≤(i:Int)∧(i:Int)<(v1_5.length:Int) then cond (ll v1_5 (i:Int))
  (iq v1_5 rest (i+1) v1_4)
  (some (.ret false)) else none else none
theorem Fo {q0:Kd} (v1_0 v1_1:ByteArray) (v1_2 v1_3:Int) (v1_5:List GTask) (rest:List GTask):∀ (i:Nat) (v1_4:Bool),(v1_5).drop i=rest→v1_5.length≤9223372036854775807→Ans (iq v1_5 rest i v1_4) (Fp (q0:=q0) v1_0 v1_1 v1_2 v1_3 v1_4 v1_5 (i:Int)):=by
 induction rest with
 | nil =>
  intro i v1_4 hE hl
  have hb:=br hE
  unfold iq
  exact KB (KD (show rG (jM q0 v1_0 v1_1 v1_2 v1_3 v1_4 v1_5 (i:Int)) (.exit 0) (oI q0 v1_0 v1_1 v1_2 v1_3 v1_4 v1_5) from RP [.val (.int .i64 (v1_5.length:Int)),.b false] (ALn v1_5 (GTask.t q0)<|AC hb<|AN)) (by intro h;cases h))
 | cons hd rest ih =>
  intro i v1_4 hE hl
  have hb:=bd hE
  have hw:=be hE hl
  have hE2:=aJ hE
  have hg:=ba hE
  unfold iq
  refine KG (fun h1 => ?_)
  refine KG (fun h2 => ?_)
  apply KE<;>intro h3
  ·exact (ih (i+1) v1_4 hE2 hl).mono fun y hy=>by have r:rG (jM q0 v1_0 v1_1 v1_2 v1_3 v1_4 v1_5 (i:Int)) .normal (jM q0 v1_0 v1_1 v1_2 v1_3 v1_4 v1_5 (inc (i:Int))):=RP [.val (.int .i64 (v1_5.length:Int)),.b true,rT] (ALn v1_5 (GTask.t q0)<|AC hb<|AV (ψ:=fun k=>E.C k 47 [.one (.s .far () 5 (v1_5.map (GTask.t q0))),.one (tI (i:Int))]=some [(false,[tB true])]) (KH (uv v1_5 (i:Int) h1 h2) (by rw [h3]))<|AN);rw [hw] at r;cases y<;>exact KC r hy
  ·exact KB (KD (show rG (jM q0 v1_0 v1_1 v1_2 v1_3 v1_4 v1_5 (i:Int)) .ret (nu q0 false) from RP [.val (.int .i64 (v1_5.length:Int)),.b true,rF] (ALn v1_5 (GTask.t q0)<|AC hb<|AV (ψ:=fun k=>E.C k 47 [.one (.s .far () 5 (v1_5.map (GTask.t q0))),.one (tI (i:Int))]=some [(false,[tB false])]) (KH (uv v1_5 (i:Int) h1 h2) (by rw [h3]))<|AN)) (by intro h;cases h))
noncomputable def pv (x0:GDag):Option (Bool) :=
  cond ((au x0.f1).2)
   (if ak.sm ((au x0.f1).1) then if x0.f0.size≤2000000 then cond (dB x0.f0)
    (cond (!(((aZ ((au x0.f1).1)).1).toList==x0.f1.toList))
     (some (false))
     (cond (ag x0.f3 (0:Int) (68374079:Int))
      (cond (ag x0.f2 (0:Int) x0.f3)
       (cond (ag (x0.f5.length:Int) (1:Int) (4:Int))
        (if x0.f5.length≤9223372036854775807 then (iq x0.f5 x0.f5 0 x0.f4).bind fun y=>match y with
         | .ret w0_2=>(some (w0_2))
         | .x0=>(if ak.sm x0.f5 then if eh x0.f5 then some (((km x0.f5).length:Int)==(x0.f5.length:Int)) else none else none) else none)
        (some (false)))
       (some (false)))
      (some (false))))
    (some (false)) else none else none)
   (if ak.sm ((au x0.f1).1) then if x0.f0.size≤2000000 then cond (dB x0.f0)
    (some (false))
    (some (false)) else none else none)
theorem GQ {q0:Kd} (x0:GDag):Ans (pv x0) (fun r=>Does E 23 [.agg (GDag.t .far q0 x0)] [(false,[tB r])]):=by
 unfold pv
 apply KE<;>intro f1
 ·refine KG (fun f2 => ?_)
  refine KG (fun f3 => ?_)
  apply KE<;>intro f4
  ·apply KE<;>intro h4
   ·exact KB (DP Tryz.f23 [.ret [(true,GCron.t .own ((au x0.f1).1)),(false,[tB true])],.ret [(false,[tS ((aZ ((au x0.f1).1)).1)]),(false,[tB ((aZ ((au x0.f1).1)).2)])],rT,.b true] (AD (dW x0.f1 f1)<|AD (dX ((au x0.f1).1) f2)<|AD (KJ (cv x0.f0 f3) f4)<|AC h4<|AN))
   ·apply KE<;>intro h5
    ·apply KE<;>intro h6
     ·apply KE<;>intro h7
      ·refine KG (fun hl7 => ?_)
       refine KF (fun y hy => ?_)
       replace hy:=Fo (q0:=q0) x0.f0 x0.f1 x0.f2 x0.f3 x0.f5 x0.f5 0 x0.f4 rfl hl7 y hy
       cases y with
       | ret w0_2 =>
        have h8:=hy
        exact KB (DP Tryz.f23 [.ret [(true,GCron.t .own ((au x0.f1).1)),(false,[tB true])],.ret [(false,[tS ((aZ ((au x0.f1).1)).1)]),(false,[tB ((aZ ((au x0.f1).1)).2)])],rT,.b false,rT,rT,.val (.int .i64 (x0.f5.length:Int)),rT,.lp .ret (nu q0 w0_2)] (AD (dW x0.f1 f1)<|AD (dX ((au x0.f1).1) f2)<|AD (KJ (cv x0.f0 f3) f4)<|AC h4<|AD (KJ (ah x0.f3 (0:Int) (68374079:Int)) h5)<|AD (KJ (ah x0.f2 (0:Int) x0.f3) h6)<|ALn x0.f5 (GTask.t q0)<|AD (KJ (ah (x0.f5.length:Int) (1:Int) (4:Int)) h7)<|AL h8<|AN))
       | x0 =>
        have h8:=hy
        refine KG (fun h9 => ?_)
        refine KG (fun h10 => ?_)
        exact KB (DP Tryz.f23 [.ret [(true,GCron.t .own ((au x0.f1).1)),(false,[tB true])],.ret [(false,[tS ((aZ ((au x0.f1).1)).1)]),(false,[tB ((aZ ((au x0.f1).1)).2)])],rT,.b false,rT,rT,.val (.int .i64 (x0.f5.length:Int)),rT,.lp (.exit 0) (oI q0 x0.f0 x0.f1 x0.f2 x0.f3 x0.f4 x0.f5),.ret [(false,[.s .own () 1 ((km x0.f5).map etI)])],.val (.int .i64 ((km x0.f5).length:Int)),.val (.int .i64 (x0.f5.length:Int))] (AD (dW x0.f1 f1)<|AD (dX ((au x0.f1).1) f2)<|AD (KJ (cv x0.f0 f3) f4)<|AC h4<|AD (KJ (ah x0.f3 (0:Int) (68374079:Int)) h5)<|AD (KJ (ah x0.f2 (0:Int) x0.f3) h6)<|ALn x0.f5 (GTask.t q0)<|AD (KJ (ah (x0.f5.length:Int) (1:Int) (4:Int)) h7)<|AL h8<|AV (ψ:=fun k=>E.C k 48 [.one (.s .far () 5 (x0.f5.map (GTask.t q0)))]=some [(false,[.s .own () 1 ((km x0.f5).map etI)])]) (Ao x0.f5 h9 h10)<|ALn (km x0.f5) etI<|ALn x0.f5 (GTask.t q0)<|AN))
      ·exact KB (DP Tryz.f23 [.ret [(true,GCron.t .own ((au x0.f1).1)),(false,[tB true])],.ret [(false,[tS ((aZ ((au x0.f1).1)).1)]),(false,[tB ((aZ ((au x0.f1).1)).2)])],rT,.b false,rT,rT,.val (.int .i64 (x0.f5.length:Int)),rF] (AD (dW x0.f1 f1)<|AD (dX ((au x0.f1).1) f2)<|AD (KJ (cv x0.f0 f3) f4)<|AC h4<|AD (KJ (ah x0.f3 (0:Int) (68374079:Int)) h5)<|AD (KJ (ah x0.f2 (0:Int) x0.f3) h6)<|ALn x0.f5 (GTask.t q0)<|AD (KJ (ah (x0.f5.length:Int) (1:Int) (4:Int)) h7)<|AN))
     ·exact KB (DP Tryz.f23 [.ret [(true,GCron.t .own ((au x0.f1).1)),(false,[tB true])],.ret [(false,[tS ((aZ ((au x0.f1).1)).1)]),(false,[tB ((aZ ((au x0.f1).1)).2)])],rT,.b false,rT,rF] (AD (dW x0.f1 f1)<|AD (dX ((au x0.f1).1) f2)<|AD (KJ (cv x0.f0 f3) f4)<|AC h4<|AD (KJ (ah x0.f3 (0:Int) (68374079:Int)) h5)<|AD (KJ (ah x0.f2 (0:Int) x0.f3) h6)<|AN))
    ·exact KB (DP Tryz.f23 [.ret [(true,GCron.t .own ((au x0.f1).1)),(false,[tB true])],.ret [(false,[tS ((aZ ((au x0.f1).1)).1)]),(false,[tB ((aZ ((au x0.f1).1)).2)])],rT,.b false,rF] (AD (dW x0.f1 f1)<|AD (dX ((au x0.f1).1) f2)<|AD (KJ (cv x0.f0 f3) f4)<|AC h4<|AD (KJ (ah x0.f3 (0:Int) (68374079:Int)) h5)<|AN))
  ·exact KB (DP Tryz.f23 [.ret [(true,GCron.t .own ((au x0.f1).1)),(false,[tB ((au x0.f1).2)])],.ret [(false,[tS ((aZ ((au x0.f1).1)).1)]),(false,[tB ((aZ ((au x0.f1).1)).2)])],rF] (AD (ne x0.f1)<|AD (dX ((au x0.f1).1) f2)<|AD (KJ (cv x0.f0 f3) f4)<|AN))
 ·refine KG (fun f5 => ?_)
  refine KG (fun f6 => ?_)
  apply KE<;>intro f7
  ·exact KB (DP Tryz.f23 [.ret [(true,GCron.t .own ((au x0.f1).1)),(false,[tB false])],.ret [(false,[tS ((aZ ((au x0.f1).1)).1)]),(false,[tB ((aZ ((au x0.f1).1)).2)])],rT] (AD (dW x0.f1 f1)<|AD (dX ((au x0.f1).1) f5)<|AD (KJ (cv x0.f0 f6) f7)<|AN))
  ·exact KB (DP Tryz.f23 [.ret [(true,GCron.t .own ((au x0.f1).1)),(false,[tB ((au x0.f1).2)])],.ret [(false,[tS ((aZ ((au x0.f1).1)).1)]),(false,[tB ((aZ ((au x0.f1).1)).2)])],rF] (AD (ne x0.f1)<|AD (dX ((au x0.f1).1) f5)<|AD (KJ (cv x0.f0 f6) f7)<|AN))
inductive wk where
 | ret (v2:Bool)
 | x2 
def jB (q0:Kd) (v1_0 v1_1:ByteArray) (v1_2 v1_3:Int) (v1_4:Bool) (v1_5 v40:List GTask) (v41 v42:Int) (v59:List ByteArray) (v60 v61:Int):US:=stL 78 [(1,.box () [tS v1_0,tS v1_1,tI v1_2,tI v1_3,tB v1_4,.s .far () 5 (v1_5.map (GTask.t q0))]),(40,.one (.s .far () 5 (v40.map (GTask.t q0)))),(41,.one (tI v41)),(42,.one (tI v42)),(59,.one (.s .far () 1 (v59.map etS))),(60,.one (tI v60)),(61,.one (tI v61))]
def ni (q0:Kd) (zv2:Bool):US:=stL 78 [(2,.one (tB zv2))]
def ow (q0:Kd) (v1_0 v1_1:ByteArray) (v1_2 v1_3:Int) (v1_4:Bool) (v1_5 v40:List GTask) (v41 v42:Int):US:=stL 78 [(1,.box () [tS v1_0,tS v1_1,tI v1_2,tI v1_3,tB v1_4,.s .far () 5 (v1_5.map (GTask.t q0))]),(40,.one (.s .far () 5 (v40.map (GTask.t q0)))),(41,.one (tI v41)),(42,.one (tI v42))]
abbrev rc:US→Exit→US→Prop:=Round E 27 (az Tryz.f27 1)
def EY {q0:Kd} (v1_0 v1_1:ByteArray) (v1_2 v1_3:Int) (v1_4:Bool) (v1_5 v40:List GTask) (v41 v42:Int) (v59:List ByteArray) (v60 v61:Int):wk→Prop
 | .ret zv2=>Loops E 27 (az Tryz.f27 1) (jB q0 v1_0 v1_1 v1_2 v1_3 v1_4 v1_5 v40 v41 v42 v59 v60 v61) .ret (ni q0 zv2)
 | .x2=>Loops E 27 (az Tryz.f27 1) (jB q0 v1_0 v1_1 v1_2 v1_3 v1_4 v1_5 v40 v41 v42 v59 v60 v61) (.exit 2) (ow q0 v1_0 v1_1 v1_2 v1_3 v1_4 v1_5 v40 v41 v42)
noncomputable def ie (v1_0 v1_1:ByteArray) (v1_2 v1_3:Int) (v1_5:List GTask):List ByteArray→Nat→Bool→Option wk
 | [],i,v1_4=>some (.x2)
 | hd::rest,i,v1_4=>if (GDag.mk v1_0 v1_1 v1_2 v1_3 v1_4 v1_5).f5.length≤1050000 then cond (decide ((bA (GDag.mk v1_0 v1_1 v1_2 v1_3 v1_4 v1_5) hd)<(0:Int)))
  (some (.ret false))
  (ie v1_0 v1_1 v1_2 v1_3 v1_5 rest (i+1) v1_4) else none
theorem EW {q0:Kd} (v1_0 v1_1:ByteArray) (v1_2 v1_3:Int) (v1_5 v40:List GTask) (v41 v42:Int) (v59:List ByteArray) (rest:List ByteArray):∀ (i:Nat) (v1_4:Bool),(v59).drop i=rest→v59.length≤9223372036854775807→Ans (ie v1_0 v1_1 v1_2 v1_3 v1_5 rest i v1_4) (EY (q0:=q0) v1_0 v1_1 v1_2 v1_3 v1_4 v1_5 v40 v41 v42 v59 (v59.length:Int) (i:Int)):=by
 induction rest with
 | nil =>
  intro i v1_4 hE hl
  have hb:=br hE
  unfold ie
  exact KB (KD (show rc (jB q0 v1_0 v1_1 v1_2 v1_3 v1_4 v1_5 v40 v41 v42 v59 (v59.length:Int) (i:Int)) (.exit 2) (ow q0 v1_0 v1_1 v1_2 v1_3 v1_4 v1_5 v40 v41 v42) from RP [.b false] (AC hb<|AN)) (by intro h;cases h))
 | cons hd rest ih =>
  intro i v1_4 hE hl
  have hb:=bd hE
  have hw:=be hE hl
  have hE2:=aJ hE
  have hg:=ba hE
  unfold ie
  refine KG (fun h2 => ?_)
  apply KE<;>intro h3
  ·exact KB (KD (show rc (jB q0 v1_0 v1_1 v1_2 v1_3 v1_4 v1_5 v40 v41 v42 v59 (v59.length:Int) (i:Int)) .ret (ni q0 false) from RP [.b true,.row (etS hd),.ret [(false,[tI (bA (GDag.mk v1_0 v1_1 v1_2 v1_3 v1_4 v1_5) hd)])],.b true] (AC hb<|AR etS hg<|AV (ψ:=fun k=>E.C k 54 [.agg (GDag.t .far q0 (GDag.mk v1_0 v1_1 v1_2 v1_3 v1_4 v1_5)),.one (tS hd)]=some [(false,[tI (bA (GDag.mk v1_0 v1_1 v1_2 v1_3 v1_4 v1_5) hd)])]) (eB (GDag.mk v1_0 v1_1 v1_2 v1_3 v1_4 v1_5) hd h2)<|AC h3<|AN)) (by intro h;cases h))
  ·exact (ih (i+1) v1_4 hE2 hl).mono fun y hy=>by have r:rc (jB q0 v1_0 v1_1 v1_2 v1_3 v1_4 v1_5 v40 v41 v42 v59 (v59.length:Int) (i:Int)) .normal (jB q0 v1_0 v1_1 v1_2 v1_3 v1_4 v1_5 v40 v41 v42 v59 (v59.length:Int) (inc (i:Int))):=RP [.b true,.row (etS hd),.ret [(false,[tI (bA (GDag.mk v1_0 v1_1 v1_2 v1_3 v1_4 v1_5) hd)])],.b false] (AC hb<|AR etS hg<|AV (ψ:=fun k=>E.C k 54 [.agg (GDag.t .far q0 (GDag.mk v1_0 v1_1 v1_2 v1_3 v1_4 v1_5)),.one (tS hd)]=some [(false,[tI (bA (GDag.mk v1_0 v1_1 v1_2 v1_3 v1_4 v1_5) hd)])]) (eB (GDag.mk v1_0 v1_1 v1_2 v1_3 v1_4 v1_5) hd h2)<|AC h3<|AN);rw [hw] at r;cases y<;>exact KC r hy
inductive wj where
 | ret (v2:Bool)
 | x0 
def gj (q0:Kd) (v1_0 v1_1:ByteArray) (v1_2 v1_3:Int) (v1_4:Bool) (v1_5 v40:List GTask) (v41 v42:Int):US:=stL 78 [(1,.box () [tS v1_0,tS v1_1,tI v1_2,tI v1_3,tB v1_4,.s .far () 5 (v1_5.map (GTask.t q0))]),(40,.one (.s .far () 5 (v40.map (GTask.t q0)))),(41,.one (tI v41)),(42,.one (tI v42))]
def iB (q0:Kd) (zv2:Bool):US:=stL 78 [(2,.one (tB zv2))]
def ov (q0:Kd) (v1_0 v1_1:ByteArray) (v1_2 v1_3:Int) (v1_4:Bool) (v1_5:List GTask):US:=stL 78 [(1,.box () [tS v1_0,tS v1_1,tI v1_2,tI v1_3,tB v1_4,.s .far () 5 (v1_5.map (GTask.t q0))])]
abbrev lH:US→Exit→US→Prop:=Round E 27 (az Tryz.f27 0)
def EX {q0:Kd} (v1_0 v1_1:ByteArray) (v1_2 v1_3:Int) (v1_4:Bool) (v1_5 v40:List GTask) (v41 v42:Int):wj→Prop
 | .ret zv2=>Loops E 27 (az Tryz.f27 0) (gj q0 v1_0 v1_1 v1_2 v1_3 v1_4 v1_5 v40 v41 v42) .ret (iB q0 zv2)
 | .x0=>Loops E 27 (az Tryz.f27 0) (gj q0 v1_0 v1_1 v1_2 v1_3 v1_4 v1_5 v40 v41 v42) (.exit 0) (ov q0 v1_0 v1_1 v1_2 v1_3 v1_4 v1_5)
noncomputable def ic (v1_0 v1_1:ByteArray) (v1_2 v1_3:Int) (v1_5:List GTask):List GTask→Nat→Bool→Option wj
 | [],i,v1_4=>some (.x0)
 | hd::rest,i,v1_4=>if ak.sm hd then cond (oQ hd)
  (if (GDag.mk v1_0 v1_1 v1_2 v1_3 v1_4 v1_5).f5.length≤1050000 then cond ((bA (GDag.mk v1_0 v1_1 v1_2 v1_3 v1_4 v1_5) hd.f0) != (i:Int))
   (some (.ret false))
   (if hd.f4.length≤9223372036854775807 then (ie v1_0 v1_1 v1_2 v1_3 v1_5 hd.f4 0 v1_4).bind fun y=>match y with
    | .ret w0_2=>(some (.ret w0_2))
    | .x2=>(ic v1_0 v1_1 v1_2 v1_3 v1_5 rest (i+1) v1_4) else none) else none)
  (some (.ret false)) else none
theorem EV {q0:Kd} (v1_0 v1_1:ByteArray) (v1_2 v1_3:Int) (v1_5 v40:List GTask) (rest:List GTask):∀ (i:Nat) (v1_4:Bool),(v40).drop i=rest→v40.length≤9223372036854775807→Ans (ic v1_0 v1_1 v1_2 v1_3 v1_5 rest i v1_4) (EX (q0:=q0) v1_0 v1_1 v1_2 v1_3 v1_4 v1_5 v40 (v40.length:Int) (i:Int)):=by
 induction rest with
 | nil =>
  intro i v1_4 hE hl
  have hb:=br hE
  unfold ic
  exact KB (KD (show lH (gj q0 v1_0 v1_1 v1_2 v1_3 v1_4 v1_5 v40 (v40.length:Int) (i:Int)) (.exit 0) (ov q0 v1_0 v1_1 v1_2 v1_3 v1_4 v1_5) from RP [.b false] (AC hb<|AN)) (by intro h;cases h))
 | cons hd rest ih =>
  intro i v1_4 hE hl
  have hb:=bd hE
  have hw:=be hE hl
  have hE2:=aJ hE
  have hg:=ba hE
  unfold ic
  refine KG (fun h2 => ?_)
  apply KE<;>intro h3
  ·refine KG (fun h4 => ?_)
   apply KE<;>intro h5
   ·exact KB (KD (show lH (gj q0 v1_0 v1_1 v1_2 v1_3 v1_4 v1_5 v40 (v40.length:Int) (i:Int)) .ret (iB q0 false) from RP [.b true,.row ((GTask.t q0) hd),rT,.ret [(false,[tI (bA (GDag.mk v1_0 v1_1 v1_2 v1_3 v1_4 v1_5) hd.f0)])],.b true] (AC hb<|AR (GTask.t q0) hg<|AD (KJ (nG hd h2) h3)<|AV (ψ:=fun k=>E.C k 54 [.agg (GDag.t .far q0 (GDag.mk v1_0 v1_1 v1_2 v1_3 v1_4 v1_5)),.one (tS hd.f0)]=some [(false,[tI (bA (GDag.mk v1_0 v1_1 v1_2 v1_3 v1_4 v1_5) hd.f0)])]) (eB (GDag.mk v1_0 v1_1 v1_2 v1_3 v1_4 v1_5) hd.f0 h4)<|AC h5<|AN)) (by intro h;cases h))
   ·refine KG (fun hl4 => ?_)
    refine KF (fun y hy => ?_)
    replace hy:=EW (q0:=q0) v1_0 v1_1 v1_2 v1_3 v1_5 v40 (v40.length:Int) (i:Int) hd.f4 hd.f4 0 v1_4 rfl hl4 y hy
    cases y with
    | ret w0_2 =>
     have h6:=hy
     exact KB (KD (show lH (gj q0 v1_0 v1_1 v1_2 v1_3 v1_4 v1_5 v40 (v40.length:Int) (i:Int)) .ret (iB q0 w0_2) from RP [.b true,.row ((GTask.t q0) hd),rT,.ret [(false,[tI (bA (GDag.mk v1_0 v1_1 v1_2 v1_3 v1_4 v1_5) hd.f0)])],.b false,.val (.int .i64 (hd.f4.length:Int)),.lp .ret (ni q0 w0_2)] (AC hb<|AR (GTask.t q0) hg<|AD (KJ (nG hd h2) h3)<|AV (ψ:=fun k=>E.C k 54 [.agg (GDag.t .far q0 (GDag.mk v1_0 v1_1 v1_2 v1_3 v1_4 v1_5)),.one (tS hd.f0)]=some [(false,[tI (bA (GDag.mk v1_0 v1_1 v1_2 v1_3 v1_4 v1_5) hd.f0)])]) (eB (GDag.mk v1_0 v1_1 v1_2 v1_3 v1_4 v1_5) hd.f0 h4)<|AC h5<|ALn hd.f4 etS<|AL h6<|AN)) (by intro h;cases h))
    | x2 =>
     have h6:=hy
     exact (ih (i+1) v1_4 hE2 hl).mono fun y hy=>by have r:lH (gj q0 v1_0 v1_1 v1_2 v1_3 v1_4 v1_5 v40 (v40.length:Int) (i:Int)) .normal (gj q0 v1_0 v1_1 v1_2 v1_3 v1_4 v1_5 v40 (v40.length:Int) (inc (i:Int))):=RP [.b true,.row ((GTask.t q0) hd),rT,.ret [(false,[tI (bA (GDag.mk v1_0 v1_1 v1_2 v1_3 v1_4 v1_5) hd.f0)])],.b false,.val (.int .i64 (hd.f4.length:Int)),.lp (.exit 2) (ow q0 v1_0 v1_1 v1_2 v1_3 v1_4 v1_5 v40 (v40.length:Int) (i:Int))] (AC hb<|AR (GTask.t q0) hg<|AD (KJ (nG hd h2) h3)<|AV (ψ:=fun k=>E.C k 54 [.agg (GDag.t .far q0 (GDag.mk v1_0 v1_1 v1_2 v1_3 v1_4 v1_5)),.one (tS hd.f0)]=some [(false,[tI (bA (GDag.mk v1_0 v1_1 v1_2 v1_3 v1_4 v1_5) hd.f0)])]) (eB (GDag.mk v1_0 v1_1 v1_2 v1_3 v1_4 v1_5) hd.f0 h4)<|AC h5<|ALn hd.f4 etS<|AL h6<|AN);rw [hw] at r;cases y<;>exact KC r hy
  ·exact KB (KD (show lH (gj q0 v1_0 v1_1 v1_2 v1_3 v1_4 v1_5 v40 (v40.length:Int) (i:Int)) .ret (iB q0 false) from RP [.b true,.row ((GTask.t q0) hd),rF] (AC hb<|AR (GTask.t q0) hg<|AD (KJ (nG hd h2) h3)<|AN)) (by intro h;cases h))
noncomputable def pd (x0:GDag):Option (Bool) :=
  if x0.f0.size≤2000000 then cond (dB x0.f0)
   (cond (ib x0.f1)
    (cond (decide (x0.f2<(0:Int)))
     (some (false))
     (cond (decide (x0.f2>x0.f3))
      (some (false))
      (cond (decide (x0.f3>(68374079:Int)))
       (some (false))
       (cond (ag (x0.f5.length:Int) (1:Int) (4:Int))
        (if x0.f5.length≤9223372036854775807 then (ic x0.f0 x0.f1 x0.f2 x0.f3 x0.f5 x0.f5 0 x0.f4).bind fun y=>match y with
         | .ret w0_2=>(some (w0_2))
         | .x0=>(if ak.sm x0 then if eh x0.f5 then some (((mw x0).length:Int)==(x0.f5.length:Int)) else none else none) else none)
        (some (false))))))
    (some (false)))
   (some (false)) else none
theorem Gg {q0:Kd} (x0:GDag):Ans (pd x0) (fun r=>Does E 27 [.agg (GDag.t .far q0 x0)] [(false,[tB r])]):=by
 unfold pd
 refine KG (fun h0 => ?_)
 apply KE<;>intro h1
 ·apply KE<;>intro h2
  ·apply KE<;>intro h3
   ·exact KB (DP Tryz.f27 [rT,rT,.b true] (AD (KJ (cQ x0.f0 h0) h1)<|AD (KJ (hZ x0.f1) h2)<|AC h3<|AN))
   ·apply KE<;>intro h4
    ·exact KB (DP Tryz.f27 [rT,rT,.b false,.b true] (AD (KJ (cQ x0.f0 h0) h1)<|AD (KJ (hZ x0.f1) h2)<|AC h3<|AC h4<|AN))
    ·apply KE<;>intro h5
     ·exact KB (DP Tryz.f27 [rT,rT,.b false,.b false,.b true] (AD (KJ (cQ x0.f0 h0) h1)<|AD (KJ (hZ x0.f1) h2)<|AC h3<|AC h4<|AC h5<|AN))
     ·apply KE<;>intro h6
      ·refine KG (fun hl7 => ?_)
       refine KF (fun y hy => ?_)
       replace hy:=EV (q0:=q0) x0.f0 x0.f1 x0.f2 x0.f3 x0.f5 x0.f5 x0.f5 0 x0.f4 rfl hl7 y hy
       cases y with
       | ret w0_2 =>
        have h7:=hy
        exact KB (DP Tryz.f27 [rT,rT,.b false,.b false,.b false,.val (.int .i64 (x0.f5.length:Int)),rT,.val (.int .i64 (x0.f5.length:Int)),.lp .ret (iB q0 w0_2)] (AD (KJ (cQ x0.f0 h0) h1)<|AD (KJ (hZ x0.f1) h2)<|AC h3<|AC h4<|AC h5<|ALn x0.f5 (GTask.t q0)<|AD (KJ (ax (x0.f5.length:Int) (1:Int) (4:Int)) h6)<|ALn x0.f5 (GTask.t q0)<|AL h7<|AN))
       | x0 =>
        have h7:=hy
        refine KG (fun h8 => ?_)
        refine KG (fun h9 => ?_)
        exact KB (DP Tryz.f27 [rT,rT,.b false,.b false,.b false,.val (.int .i64 (x0.f5.length:Int)),rT,.val (.int .i64 (x0.f5.length:Int)),.lp (.exit 0) (ov q0 x0.f0 x0.f1 x0.f2 x0.f3 x0.f4 x0.f5),.ret [(false,[.s .own () 1 ((mw x0).map etI)])],.val (.int .i64 ((mw x0).length:Int)),.val (.int .i64 (x0.f5.length:Int))] (AD (KJ (cQ x0.f0 h0) h1)<|AD (KJ (hZ x0.f1) h2)<|AC h3<|AC h4<|AC h5<|ALn x0.f5 (GTask.t q0)<|AD (KJ (ax (x0.f5.length:Int) (1:Int) (4:Int)) h6)<|ALn x0.f5 (GTask.t q0)<|AL h7<|AV (ψ:=fun k=>E.C k 55 [.agg (GDag.t .far q0 x0)]=some [(false,[.s .own () 1 ((mw x0).map etI)])]) (Cy x0 h8 h9)<|ALn (mw x0) etI<|ALn x0.f5 (GTask.t q0)<|AN))
      ·exact KB (DP Tryz.f27 [rT,rT,.b false,.b false,.b false,.val (.int .i64 (x0.f5.length:Int)),rF] (AD (KJ (cQ x0.f0 h0) h1)<|AD (KJ (hZ x0.f1) h2)<|AC h3<|AC h4<|AC h5<|ALn x0.f5 (GTask.t q0)<|AD (KJ (ax (x0.f5.length:Int) (1:Int) (4:Int)) h6)<|AN))
  ·exact KB (DP Tryz.f27 [rT,rF] (AD (KJ (cQ x0.f0 h0) h1)<|AD (KJ (hZ x0.f1) h2)<|AN))
 ·exact KB (DP Tryz.f27 [rF] (AD (KJ (cQ x0.f0 h0) h1)<|AN))
noncomputable def du (ts:List GTask):List GTask→Nat→Bool
 | [],_=>true
 | t::r,i=>gF ts (i:Int) t&&du ts r (i+1)
noncomputable def aP (d:GDag):Bool :=
 dB d.f0&&(ib d.f1&&(ag d.f3 0 68374079&&(ag d.f2 0 d.f3&&(ag (d.f5.length:Int) 1 4&&(du d.f5 d.f5 0&&((km d.f5).length:Int)==(d.f5.length:Int))))))
theorem rz (ts:List GTask):∀ (rest:List GTask) (i:Nat),ts.drop i=rest→du ts rest i=true→∀ (k:Nat) (t:GTask),i≤k→ts[k]?=some t→gF ts (k:Int) t=true
 | [],i,h,_,k,t,hk,hg=>by
  have:ts.length≤i:=List.drop_eq_nil_iff.1 h
  rw [List.getElem?_eq_none (by omega)] at hg;cases hg
 | x::rest,i,h,hr,k,t,hk,hg=>by
  unfold du at hr
  rw [Bool.and_eq_true] at hr
  by_cases e:k=i
  ·subst e
   have:ts[k]?=some x:=by rw [← List.head?_drop,h];rfl
   rw [this] at hg
   cases hg
   exact hr.1
  ·exact rz ts rest (i+1) (aJ h) hr.2 k t (by omega) hg
theorem rb {ts:List GTask} (h4:ts.length≤4) (h:du ts ts 0=true):eh ts:=by
 refine ⟨h4,fun i t hg => ?_⟩
 have:=rz ts ts 0 rfl h i t (Nat.zero_le _) hg
 unfold gF at this
 simp only [Bool.and_eq_true,beq_iff_eq] at this
 exact this.2.1
theorem FT (ts:List GTask) (hs:ak.sm ts):∀ (rest:List GTask) (i:Nat) (z:Bool),ts.drop i=rest→iq ts rest i z=some (cond (du ts rest i) .x0 (.ret false))
 | [],i,z,_=>rfl
 | x::rest,i,z,h=>by
  have hi:=lD h
  have hg:=ba h
  have e:ll ts (i:Int)=gF ts (i:Int) x:=by unfold ll;rw [hg]
  unfold iq du
  rw [FT ts hs rest (i+1) z (aJ h),if_pos hs,if_pos (by omega),e]
  cases gF ts (i:Int) x<;>rfl
theorem Jt (d:GDag) (h:ak.sm d):pv d=some (aP d):=by
 have hs:ak.sm d.f5:=h.2.2
 have hn:d.f0.size≤2000000:=by have:d.f0.size≤1050000:=h.1;omega
 unfold pv aP ib
 simp only [hn,BI,if_true]
 cases (au d.f1).2 with
 | false=>cases dB d.f0<;>rfl
 | true =>
  rw [cond_true]
  cases dB d.f0 with
  | false=>rfl
  | true =>
   rw [cond_true,Bool.true_and,Bool.true_and]
   cases (aZ (au d.f1).1).1.toList==d.f1.toList with
   | false=>rfl
   | true =>
    rw [Bool.not_true,cond_false,Bool.true_and]
    cases ag d.f3 0 68374079 with
    | false=>rfl
    | true =>
     rw [cond_true,Bool.true_and]
     cases ag d.f2 0 d.f3 with
     | false=>rfl
     | true =>
      rw [cond_true,Bool.true_and]
      cases q:ag (d.f5.length:Int) 1 4 with
      | false=>rfl
      | true =>
       have h4:d.f5.length≤4:=by unfold ag at q;simp at q;omega
       rw [cond_true,Bool.true_and,if_pos (by omega),FT d.f5 hs d.f5 0 d.f4 rfl]
       cases w:du d.f5 d.f5 0 with
       | false=>rfl
       | true =>
        rw [cond_true,Option.bind_some,Bool.true_and]
        simp only
        rw [if_pos hs,if_pos (rb h4 w)]
theorem FS (a b:ByteArray) (c e:Int) (ts:List GTask) (ht:ts.length≤1050000):∀ (l:List ByteArray) (i:Nat) (z:Bool),ie a b c e ts l i z=some (cond (l.all fun n=>decide (0≤ar ts n)) .x2 (.ret false))
 | [],i,z=>rfl
 | n::l,i,z=>by
  unfold ie
  rw [if_pos (show (GDag.mk a b c e z ts).f5.length≤1050000 from ht),FS a b c e ts ht l (i+1) z,List.all_cons]
  show cond (decide (ar ts n<0)) _ _=_
  by_cases w:ar ts n<0
  ·rw [decide_eq_true w,decide_eq_false (by omega:¬ 0≤ar ts n)];rfl
  ·rw [decide_eq_false w,decide_eq_true (by omega:0≤ar ts n)];rfl
theorem FR (a b:ByteArray) (c e:Int) (ts:List GTask) (hs:ak.sm ts) (h4:ts.length≤4):∀ (l:List GTask) (i:Nat) (z:Bool),(∀ y∈l,ak.sm y)→ic a b c e ts l i z=some (cond (du ts l i) .x0 (.ret false))
 | [],i,z,_=>rfl
 | t::l,i,z,hl=>by
  have ht:=hl t (by simp)
  have hf:t.f4.length≤1050000:=ht.2.2.1
  unfold ic du
  rw [if_pos ht,if_pos (show (GDag.mk a b c e z ts).f5.length≤1050000 from hs.1),if_pos (by omega),FS a b c e ts hs.1,FR a b c e ts hs h4 l (i+1) z (fun y hy=>hl y (by simp [hy])),FD ts h4]
  have e1:(bA (GDag.mk a b c e z ts) t.f0 != (i:Int)) = !(ar ts t.f0==(i:Int)):=rfl
  rw [e1]
  cases oQ t<;>cases ar ts t.f0==(i:Int)<;>cases (t.f4.all fun n=>decide (0≤ar ts n))<;>cases du ts l (i+1)<;>rfl
theorem Js (d:GDag) (h:ak.sm d):pd d=some (aP d):=by
 have hs:ak.sm d.f5:=h.2.2
 have hn:d.f0.size≤2000000:=by have:d.f0.size≤1050000:=h.1;omega
 unfold pd aP
 rw [if_pos hn]
 cases dB d.f0 with
 | false=>rfl
 | true =>
  rw [cond_true,Bool.true_and]
  cases ib d.f1 with
  | false=>rfl
  | true =>
   rw [cond_true,Bool.true_and]
   by_cases w0:d.f2<0
   ·have:ag d.f2 0 d.f3=false:=by unfold ag;rw [decide_eq_false (by omega)];rfl
    rw [decide_eq_true w0,this,Bool.false_and,Bool.and_false];rfl
   ·rw [decide_eq_false w0,cond_false]
    by_cases w1:d.f2>d.f3
    ·have:ag d.f2 0 d.f3=false:=by unfold ag;rw [decide_eq_false (by omega:¬ d.f2≤d.f3),Bool.and_false]
     rw [decide_eq_true w1,this,Bool.false_and,Bool.and_false];rfl
    ·rw [decide_eq_false w1,cond_false]
     have e1:ag d.f2 0 d.f3=true:=by unfold ag;rw [decide_eq_true (by omega),decide_eq_true (by omega)];rfl
     by_cases w2:d.f3>68374079
     ·have:ag d.f3 0 68374079=false:=by unfold ag;rw [decide_eq_false (by omega:¬ d.f3≤68374079),Bool.and_false]
      rw [decide_eq_true w2,this,Bool.false_and];rfl
     ·have e2:ag d.f3 0 68374079=true:=by unfold ag;rw [decide_eq_true (by omega),decide_eq_true (by omega)];rfl
      rw [decide_eq_false w2,cond_false,e1,e2,Bool.true_and,Bool.true_and]
      cases q:ag (d.f5.length:Int) 1 4 with
      | false=>rfl
      | true =>
       have h4:d.f5.length≤4:=by unfold ag at q;simp at q;omega
       rw [cond_true,Bool.true_and,if_pos (by omega),FR d.f0 d.f1 d.f2 d.f3 d.f5 hs h4 d.f5 0 d.f4 hs.2]
       cases w:du d.f5 d.f5 0 with
       | false=>rfl
       | true =>
        rw [cond_true,Option.bind_some,Bool.true_and]
        simp only
        rw [if_pos h,if_pos (rb h4 w)]
        rfl
theorem yr {q0:Kd} (x0:GDag) (h:ak.sm x0):Does E 23 [.agg (GDag.t .far q0 x0)] [(false,[tB (aP x0)])]:=by
 exact GQ x0 _ (Jt x0 h)
theorem yq {q0:Kd} (x0:GDag) (h:ak.sm x0):Does E 27 [.agg (GDag.t .far q0 x0)] [(false,[tB (aP x0)])]:=by
 exact Gg x0 _ (Js x0 h)
end Go.Proofs.YtgaiiephdjllkaaGreatDoor.Am
