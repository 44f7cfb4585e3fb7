/- Plans. -/
import Derived.Test.YtgaiiephdjllkaaGreatDoorRules
namespace Go.Proofs.YtgaiiephdjllkaaGreatDoor.Am
open Go Go.Proofs Classical
set_option maxRecDepth 100000
set_option linter.unusedVariables false
set_option linter.unusedSimpArgs false
inductive ur where
 | ret (v2:Bool)
 | x0 
def cH (v0:ByteArray) (v3:Int):US:=stL 46 [(0,.one (tS v0)),(3,.one (tI v3))]
def fH (zv2:Bool):US:=stL 46 [(2,.one (tB zv2))]
def ne  : US:=stL 46 []
abbrev fA:US→Exit→US→Prop:=Round E 45 (av Tryz.f45 0)
def Cn (v0:ByteArray) (v3:Int):ur→Prop
 | .ret zv2=>Loops E 45 (av Tryz.f45 0) (cH v0 v3) .ret (fH zv2)
 | .x0=>Loops E 45 (av Tryz.f45 0) (cH v0 v3) (.exit 0) (ne)
noncomputable def eD  : List Int→Nat→Option ur
 | [],i=>some (.x0)
 | hd::rest,i=>cond (decide (hd<(97:Int)))
  (cond (decide (hd<(48:Int)))
   (some (.ret false))
   (cond (decide (hd>(57:Int)))
    (some (.ret false))
    (eD rest (i+1))))
  (cond (decide (hd>(122:Int)))
   (cond (decide (hd<(48:Int)))
    (some (.ret false))
    (cond (decide (hd>(57:Int)))
     (some (.ret false))
     (eD rest (i+1))))
   (eD rest (i+1)))
theorem Cm (v0:ByteArray) (rest:List Int):∀ (i:Nat) ,(bH v0).drop i=rest→v0.size≤9223372036854775807→Ans (eD rest i) (Cn v0 (i:Int)):=by
 induction rest with
 | nil =>
  intro i hE hl
  have hb:=nV hE
  unfold eD
  exact JG (JI (show fA (cH v0 (i:Int)) (.exit 0) (ne) from RP [.b false] (AC hb<|AN)) (by intro h;cases h))
 | cons hd rest ih =>
  intro i hE hl
  have hb:=mO hE
  have hw:=mP hE hl
  have hE2:=aK hE
  have hp:=pT hE
  obtain rfl:=pS hE
  unfold eD
  apply JJ<;>intro h2
  ·apply JJ<;>intro h3
   ·exact JG (JI (show fA (cH v0 (i:Int)) .ret (fH false) from RP [.b true,.b true,.b true] (AC hb<|AC hp<|AC h2<|AC hp<|AC h3<|AN)) (by intro h;cases h))
   ·apply JJ<;>intro h4
    ·exact JG (JI (show fA (cH v0 (i:Int)) .ret (fH false) from RP [.b true,.b true,.b false,.b true] (AC hb<|AC hp<|AC h2<|AC hp<|AC h3<|AC hp<|AC h4<|AN)) (by intro h;cases h))
    ·exact (ih (i+1) hE2 hl).mono fun y hy=>by have r:fA (cH v0 (i:Int)) .normal (cH v0 (inc (i:Int))):=RP [.b true,.b true,.b false,.b false] (AC hb<|AC hp<|AC h2<|AC hp<|AC h3<|AC hp<|AC h4<|AN);rw [hw] at r;cases y<;>exact JH r hy
  ·apply JJ<;>intro h3
   ·apply JJ<;>intro h4
    ·exact JG (JI (show fA (cH v0 (i:Int)) .ret (fH false) from RP [.b true,.b false,.b true,.b true] (AC hb<|AC hp<|AC h2<|AC hp<|AC h3<|AC hp<|AC h4<|AN)) (by intro h;cases h))
    ·apply JJ<;>intro h5
     ·exact JG (JI (show fA (cH v0 (i:Int)) .ret (fH false) from RP [.b true,.b false,.b true,.b false,.b true] (AC hb<|AC hp<|AC h2<|AC hp<|AC h3<|AC hp<|AC h4<|AC hp<|AC h5<|AN)) (by intro h;cases h))
     ·exact (ih (i+1) hE2 hl).mono fun y hy=>by have r:fA (cH v0 (i:Int)) .normal (cH v0 (inc (i:Int))):=RP [.b true,.b false,.b true,.b false,.b false] (AC hb<|AC hp<|AC h2<|AC hp<|AC h3<|AC hp<|AC h4<|AC hp<|AC h5<|AN);rw [hw] at r;cases y<;>exact JH r hy
   ·exact (ih (i+1) hE2 hl).mono fun y hy=>by have r:fA (cH v0 (i:Int)) .normal (cH v0 (inc (i:Int))):=RP [.b true,.b false,.b false] (AC hb<|AC hp<|AC h2<|AC hp<|AC h3<|AN);rw [hw] at r;cases y<;>exact JH r hy
noncomputable def nD (x0:ByteArray):Option (Bool) :=
  cond (aG (x0.size:Int) (1:Int) (8:Int))
   (if 0≤(0:Int)∧(0:Int)<(x0.size:Int) then cond (decide ((fk x0 (0:Int))<(97:Int)))
    (some (false))
    (cond (decide ((fk x0 (0:Int))>(122:Int)))
     (some (false))
     (if x0.size≤9223372036854775807 then (eD (bH x0) 0).bind fun y=>match y with
      | .ret w0_2=>(some (w0_2))
      | .x0=>(some (true)) else none)) else none)
   (some (false))
theorem Ee (x0:ByteArray):Ans (nD x0) (fun r=>Does E 45 [.one (tS x0)] [(false,[tB r])]):=by
 unfold nD
 apply JJ<;>intro h0
 ·refine JL (fun h1 => ?_)
  apply JJ<;>intro h2
  ·exact JG (DP Tryz.f45 [rT,.b true] (AD (JO (bu (x0.size:Int) (1:Int) (8:Int)) h0)<|AC h1<|AC h2<|AN))
  ·apply JJ<;>intro h3
   ·exact JG (DP Tryz.f45 [rT,.b false,.b true] (AD (JO (bu (x0.size:Int) (1:Int) (8:Int)) h0)<|AC h1<|AC h2<|AC h1<|AC h3<|AN))
   ·refine JL (fun hl4 => ?_)
    refine JK (fun y hy => ?_)
    replace hy:=Cm x0 (bH x0) 0 rfl hl4 y hy
    cases y with
    | ret w0_2 =>
     have h4:=hy
     exact JG (DP Tryz.f45 [rT,.b false,.b false,.lp .ret (fH w0_2)] (AD (JO (bu (x0.size:Int) (1:Int) (8:Int)) h0)<|AC h1<|AC h2<|AC h1<|AC h3<|AL h4<|AN))
    | x0 =>
     have h4:=hy
     exact JG (DP Tryz.f45 [rT,.b false,.b false,.lp (.exit 0) (ne)] (AD (JO (bu (x0.size:Int) (1:Int) (8:Int)) h0)<|AC h1<|AC h2<|AC h1<|AC h3<|AL h4<|AN))
 ·exact JG (DP Tryz.f45 [rF] (AD (JO (bu (x0.size:Int) (1:Int) (8:Int)) h0)<|AN))
inductive ud where
 | ret (v2:Bool)
 | x0 
def b8 (v0:ByteArray) (v3:Int):US:=stL 42 [(0,.one (tS v0)),(3,.one (tI v3))]
def dN (zv2:Bool):US:=stL 42 [(2,.one (tB zv2))]
def m4 (v0:ByteArray):US:=stL 42 [(0,.one (tS v0))]
abbrev dV:US→Exit→US→Prop:=Round E 50 (av Tryz.f50 0)
def BZ (v0:ByteArray) (v3:Int):ud→Prop
 | .ret zv2=>Loops E 50 (av Tryz.f50 0) (b8 v0 v3) .ret (dN zv2)
 | .x0=>Loops E 50 (av Tryz.f50 0) (b8 v0 v3) (.exit 0) (m4 v0)
noncomputable def dW  : List Int→Nat→Option ud
 | [],i=>some (.x0)
 | hd::rest,i=>cond (decide (hd≥(97:Int)))
  (cond (decide (hd≤(122:Int)))
   (dW rest (i+1))
   (cond ((i:Int)==(0:Int))
    (some (.ret false))
    (cond (decide (hd<(48:Int)))
     (some (.ret false))
     (cond (decide (hd>(57:Int)))
      (some (.ret false))
      (dW rest (i+1))))))
  (cond ((i:Int)==(0:Int))
   (some (.ret false))
   (cond (decide (hd<(48:Int)))
    (some (.ret false))
    (cond (decide (hd>(57:Int)))
     (some (.ret false))
     (dW rest (i+1)))))
theorem BY (v0:ByteArray) (rest:List Int):∀ (i:Nat) ,(bH v0).drop i=rest→v0.size≤9223372036854775807→Ans (dW rest i) (BZ v0 (i:Int)):=by
 induction rest with
 | nil =>
  intro i hE hl
  have hb:=nV hE
  unfold dW
  exact JG (JI (show dV (b8 v0 (i:Int)) (.exit 0) (m4 v0) from RP [.b false] (AC hb<|AN)) (by intro h;cases h))
 | cons hd rest ih =>
  intro i hE hl
  have hb:=mO hE
  have hw:=mP hE hl
  have hE2:=aK hE
  have hp:=pT hE
  obtain rfl:=pS hE
  unfold dW
  apply JJ<;>intro h2
  ·apply JJ<;>intro h3
   ·exact (ih (i+1) hE2 hl).mono fun y hy=>by have r:dV (b8 v0 (i:Int)) .normal (b8 v0 (inc (i:Int))):=RP [.b true,.b true,.b true] (AC hb<|AC hp<|AC h2<|AC hp<|AC h3<|AN);rw [hw] at r;cases y<;>exact JH r hy
   ·apply JJ<;>intro h4
    ·exact JG (JI (show dV (b8 v0 (i:Int)) .ret (dN false) from RP [.b true,.b true,.b false,.b true] (AC hb<|AC hp<|AC h2<|AC hp<|AC h3<|AC h4<|AN)) (by intro h;cases h))
    ·apply JJ<;>intro h5
     ·exact JG (JI (show dV (b8 v0 (i:Int)) .ret (dN false) from RP [.b true,.b true,.b false,.b false,.b true] (AC hb<|AC hp<|AC h2<|AC hp<|AC h3<|AC h4<|AC hp<|AC h5<|AN)) (by intro h;cases h))
     ·apply JJ<;>intro h6
      ·exact JG (JI (show dV (b8 v0 (i:Int)) .ret (dN false) from RP [.b true,.b true,.b false,.b false,.b false,.b true] (AC hb<|AC hp<|AC h2<|AC hp<|AC h3<|AC h4<|AC hp<|AC h5<|AC hp<|AC h6<|AN)) (by intro h;cases h))
      ·exact (ih (i+1) hE2 hl).mono fun y hy=>by have r:dV (b8 v0 (i:Int)) .normal (b8 v0 (inc (i:Int))):=RP [.b true,.b true,.b false,.b false,.b false,.b false] (AC hb<|AC hp<|AC h2<|AC hp<|AC h3<|AC h4<|AC hp<|AC h5<|AC hp<|AC h6<|AN);rw [hw] at r;cases y<;>exact JH r hy
  ·apply JJ<;>intro h3
   ·exact JG (JI (show dV (b8 v0 (i:Int)) .ret (dN false) from RP [.b true,.b false,.b true] (AC hb<|AC hp<|AC h2<|AC h3<|AN)) (by intro h;cases h))
   ·apply JJ<;>intro h4
    ·exact JG (JI (show dV (b8 v0 (i:Int)) .ret (dN false) from RP [.b true,.b false,.b false,.b true] (AC hb<|AC hp<|AC h2<|AC h3<|AC hp<|AC h4<|AN)) (by intro h;cases h))
    ·apply JJ<;>intro h5
     ·exact JG (JI (show dV (b8 v0 (i:Int)) .ret (dN false) from RP [.b true,.b false,.b false,.b false,.b true] (AC hb<|AC hp<|AC h2<|AC h3<|AC hp<|AC h4<|AC hp<|AC h5<|AN)) (by intro h;cases h))
     ·exact (ih (i+1) hE2 hl).mono fun y hy=>by have r:dV (b8 v0 (i:Int)) .normal (b8 v0 (inc (i:Int))):=RP [.b true,.b false,.b false,.b false,.b false] (AC hb<|AC hp<|AC h2<|AC h3<|AC hp<|AC h4<|AC hp<|AC h5<|AN);rw [hw] at r;cases y<;>exact JH r hy
noncomputable def nt (x0:ByteArray):Option (Bool) :=
  if x0.size≤9223372036854775807 then (dW (bH x0) 0).bind fun y=>match y with
   | .ret w0_2=>(some (w0_2))
   | .x0=>(some (aG (x0.size:Int) (1:Int) (8:Int))) else none
theorem DF (x0:ByteArray):Ans (nt x0) (fun r=>Does E 50 [.one (tS x0)] [(false,[tB r])]):=by
 unfold nt
 refine JL (fun hl1 => ?_)
 refine JK (fun y hy => ?_)
 replace hy:=BY x0 (bH x0) 0 rfl hl1 y hy
 cases y with
 | ret w0_2 =>
  have h0:=hy
  exact JG (DP Tryz.f50 [.lp .ret (dN w0_2)] (AL h0<|AN))
 | x0 =>
  have h0:=hy
  exact JG (DP Tryz.f50 [.lp (.exit 0) (m4 x0),.ret [(false,[tB (aG (x0.size:Int) (1:Int) (8:Int))])]] (AL h0<|AD (cW (x0.size:Int) (1:Int) (8:Int))<|AN))
def pu (h:Int):Bool:=decide (97≤h∧h≤122)
def lfI (h:Int):Bool:=decide (97≤h∧h≤122∨48≤h∧h≤57)
def GM:List Int→Bool
 | []=>true
 | h::l=>pu h&&l.all lfI
def dz (s:ByteArray):Bool:=aG (s.size:Int) 1 8&&GM (bH s)
theorem HF {α:Type} (h:Int) (A B:α):cond (decide (h<97)) (cond (decide (h<48)) A (cond (decide (h>57)) A B)) (cond (decide (h>122)) (cond (decide (h<48)) A (cond (decide (h>57)) A B)) B)=cond (lfI h) B A:=by
 unfold lfI
 simp only [Bool.cond_decide]
 repeat' split
 all_goals first | rfl | (exfalso;omega)
theorem Hd {α:Type} (h:Int) (A B:α):cond (decide (h≥97)) (cond (decide (h≤122)) B (cond (decide (h<48)) A (cond (decide (h>57)) A B))) (cond (decide (h<48)) A (cond (decide (h>57)) A B))=cond (lfI h) B A:=by
 unfold lfI
 simp only [Bool.cond_decide]
 repeat' split
 all_goals first | rfl | (exfalso;omega)
theorem Hc {α:Type} (h:Int) (A B:α):cond (decide (h≥97)) (cond (decide (h≤122)) B A) A=cond (pu h) B A:=by
 unfold pu
 simp only [Bool.cond_decide]
 repeat' split
 all_goals first | rfl | (exfalso;omega)
theorem HE {h:Int} (q:pu h=true):lfI h=true:=by
 unfold pu at q
 unfold lfI
 simp only [decide_eq_true_eq] at q ⊢
 exact .inl q
theorem CP:∀ (l:List Int) (i:Nat),eD l i=some (cond (l.all lfI) .x0 (.ret false))
 | [],i=>rfl
 | h::l,i=>by
  unfold eD
  rw [CP l (i+1),List.all_cons,HF]
  cases lfI h<;>rfl
theorem CO:∀ (l:List Int) (i:Nat),dW l (i+1)=some (cond (l.all lfI) .x0 (.ret false))
 | [],i=>rfl
 | h::l,i=>by
  unfold dW
  have e:(((i+1:Nat):Int)==0)=false:=by rw [beq_eq_false_iff_ne];omega
  rw [CO l (i+1),List.all_cons,e]
  simp only [cond_false]
  rw [Hd]
  cases lfI h<;>rfl
theorem HJ (s:ByteArray) (hs:s.size≤2000000):nD s=some (dz s):=by
 unfold nD dz
 cases q:aG (s.size:Int) 1 8 with
 | false=>rfl
 | true =>
  have hr:1≤(s.size:Int)∧(s.size:Int)≤8:=by unfold aG at q;simpa using q
  rw [cond_true,if_pos (by omega),if_pos (by omega),Bool.true_and,CP]
  have h0:=pC s 0 (by omega)
  cases e:bH s with
  | nil=>rw [e] at h0;cases h0
  | cons h l =>
   rw [e] at h0
   have hb:h=fk s (0:Int):=Option.some.inj h0
   rw [← hb]
   show _=some (pu h&&l.all lfI)
   rw [List.all_cons]
   have k:∀ (X:Option Bool),cond (decide (h<97)) (some false) (cond (decide (h>122)) (some false) X)=cond (pu h) X (some false):=fun X=>by
    unfold pu
    simp only [Bool.cond_decide]
    repeat' split
    all_goals first | rfl | (exfalso;omega)
   rw [k]
   cases q2:pu h with
   | false=>rfl
   | true =>
    rw [HE q2]
    cases l.all lfI<;>rfl
theorem HI (s:ByteArray) (hs:s.size≤2000000):nt s=some (dz s):=by
 unfold nt dz
 rw [if_pos (by omega)]
 cases e:bH s with
 | nil =>
  show some (aG (s.size:Int) 1 8)=some (aG (s.size:Int) 1 8&&true)
  rw [Bool.and_true]
 | cons h l =>
  unfold dW GM
  have e0:(((0:Nat):Int)==0)=true:=rfl
  rw [CO l 0,e0]
  simp only [cond_true]
  rw [Hc]
  cases pu h with
  | false=>rw [Bool.false_and,Bool.and_false];rfl
  | true =>
   rw [cond_true,Bool.true_and,Option.bind_some]
   cases l.all lfI with
   | false=>rw [Bool.and_false];rfl
   | true=>rw [Bool.and_true];rfl
theorem ct (x0:ByteArray) (h:x0.size≤2000000):Does E 45 [.one (tS x0)] [(false,[tB (dz x0)])]:=by
 exact Ee x0 _ (HJ x0 h)
theorem cL (x0:ByteArray) (h:x0.size≤2000000):Does E 50 [.one (tS x0)] [(false,[tB (dz x0)])]:=by
 exact DF x0 _ (HI x0 h)
noncomputable def jp (x0:ByteArray):Option (Int) :=
  cond (x0.toList==(⟨#[111,110,101]⟩:ByteArray).toList)
   (some ((1:Int)))
   (cond (x0.toList==(⟨#[116,119,111]⟩:ByteArray).toList)
    (some ((2:Int)))
    (cond (x0.toList==(⟨#[119,105,100,101]⟩:ByteArray).toList)
     (some ((4:Int)))
     (some ((0:Int)))))
theorem A3 (x0:ByteArray):Ans (jp x0) (fun r=>Does E 71 [.one (tS x0)] [(false,[tI r])]):=by
 unfold jp
 apply JJ<;>intro h0
 ·exact JG (DP Tryz.f71 [.b true] (AC h0<|AN))
 ·apply JJ<;>intro h1
  ·exact JG (DP Tryz.f71 [.b false,.b true] (AC h0<|AC h1<|AN))
  ·apply JJ<;>intro h2
   ·exact JG (DP Tryz.f71 [.b false,.b false,.b true] (AC h0<|AC h1<|AC h2<|AN))
   ·exact JG (DP Tryz.f71 [.b false,.b false,.b false] (AC h0<|AC h1<|AC h2<|AN))
noncomputable def sJ (x0:ByteArray):Option (Int) :=
  cond (x0.toList==(⟨#[111,110,101]⟩:ByteArray).toList)
   (some ((1:Int)))
   (cond (x0.toList==(⟨#[116,119,111]⟩:ByteArray).toList)
    (some ((2:Int)))
    (cond (x0.toList==(⟨#[119,105,100,101]⟩:ByteArray).toList)
     (some ((4:Int)))
     (some ((0:Int)))))
theorem z7 (x0:ByteArray):Ans (sJ x0) (fun r=>Does E 76 [.one (tS x0)] [(false,[tI r])]):=by
 unfold sJ
 apply JJ<;>intro h0
 ·exact JG (DP Tryz.f76 [.b true] (AC h0<|AN))
 ·apply JJ<;>intro h1
  ·exact JG (DP Tryz.f76 [.b false,.b true] (AC h0<|AC h1<|AN))
  ·apply JJ<;>intro h2
   ·exact JG (DP Tryz.f76 [.b false,.b false,.b true] (AC h0<|AC h1<|AC h2<|AN))
   ·exact JG (DP Tryz.f76 [.b false,.b false,.b false] (AC h0<|AC h1<|AC h2<|AN))
noncomputable def bJ (s:ByteArray):Int:=(jp s).getD 0
theorem AO (s:ByteArray):jp s=some (bJ s):=by
 refine Tot.getD ?_ _
 unfold jp
 repeat' (first | exact Tot.some _ | apply Tot.cond)
theorem lk (x0:ByteArray):Does E 71 [.one (tS x0)] [(false,[tI (bJ x0)])]:=by
 exact A3 x0 _ (AO x0)
theorem jc (x0:ByteArray):Does E 76 [.one (tS x0)] [(false,[tI (bJ x0)])]:=by
 exact z7 x0 _ (AO x0)
inductive wi where
 | ret (v4:Int)
 | x0 
def jR (q0:Kd) (v0:List GTask) (v1:ByteArray) (v5:Int):US:=stL 20 [(0,.one (.s .far () 5 (v0.map (GTask.t q0)))),(1,.one (tS v1)),(5,.one (tI v5))]
def nj (q0:Kd) (zv4:Int):US:=stL 20 [(4,.one (tI zv4))]
def ox (q0:Kd)  : US:=stL 20 []
abbrev rf:US→Exit→US→Prop:=Round E 70 (av Tryz.f70 0)
def Ej {q0:Kd} (v0:List GTask) (v1:ByteArray) (v5:Int):wi→Prop
 | .ret zv4=>Loops E 70 (av Tryz.f70 0) (jR q0 v0 v1 v5) .ret (nj q0 zv4)
 | .x0=>Loops E 70 (av Tryz.f70 0) (jR q0 v0 v1 v5) (.exit 0) (ox q0)
noncomputable def iw (v1:ByteArray):List GTask→Nat→Option wi
 | [],i=>some (.x0)
 | hd::rest,i=>cond (hd.f0.toList==v1.toList)
  (some (.ret (i:Int)))
  (iw v1 rest (i+1))
theorem Ei {q0:Kd} (v0:List GTask) (v1:ByteArray) (rest:List GTask):∀ (i:Nat) ,(v0).drop i=rest→v0.length≤9223372036854775807→Ans (iw v1 rest i) (Ej (q0:=q0) v0 v1 (i:Int)):=by
 induction rest with
 | nil =>
  intro i hE hl
  have hb:=bG hE
  unfold iw
  exact JG (JI (show rf (jR q0 v0 v1 (i:Int)) (.exit 0) (ox q0) from RP [.val (.int .i64 (v0.length:Int)),.b false] (ALn v0 (GTask.t q0)<|AC hb<|AN)) (by intro h;cases h))
 | cons hd rest ih =>
  intro i hE hl
  have hb:=bm hE
  have hw:=bn hE hl
  have hE2:=aK hE
  have hg:=bo hE
  unfold iw
  apply JJ<;>intro h2
  ·exact JG (JI (show rf (jR q0 v0 v1 (i:Int)) .ret (nj q0 (i:Int)) from RP [.val (.int .i64 (v0.length:Int)),.b true,.row ((GTask.t q0) hd),.b true] (ALn v0 (GTask.t q0)<|AC hb<|AR (GTask.t q0) hg<|AC h2<|AN)) (by intro h;cases h))
  ·exact (ih (i+1) hE2 hl).mono fun y hy=>by have r:rf (jR q0 v0 v1 (i:Int)) .normal (jR q0 v0 v1 (inc (i:Int))):=RP [.val (.int .i64 (v0.length:Int)),.b true,.row ((GTask.t q0) hd),.b false] (ALn v0 (GTask.t q0)<|AC hb<|AR (GTask.t q0) hg<|AC h2<|AN);rw [hw] at r;cases y<;>exact JH r hy
noncomputable def tr (x0:List GTask) (x1:ByteArray):Option (Int) :=
  if x0.length≤9223372036854775807 then (iw x1 x0 0).bind fun y=>match y with
   | .ret w0_4=>(some (w0_4))
   | .x0=>(some ((-1:Int))) else none
theorem FE {q0:Kd} (x0:List GTask) (x1:ByteArray):Ans (tr x0 x1) (fun r=>Does E 70 [.one (.s .far () 5 (x0.map (GTask.t q0))),.one (tS x1)] [(false,[tI r])]):=by
 unfold tr
 refine JL (fun hl1 => ?_)
 refine JK (fun y hy => ?_)
 replace hy:=Ei (q0:=q0) x0 x1 x0 0 rfl hl1 y hy
 cases y with
 | ret w0_4 =>
  have h0:=hy
  exact JG (DP Tryz.f70 [.lp .ret (nj q0 w0_4)] (AL h0<|AN))
 | x0 =>
  have h0:=hy
  exact JG (DP Tryz.f70 [.lp (.exit 0) (ox q0)] (AL h0<|AN))
noncomputable def sK (x0:GTask) (y0:ByteArray):Option (Bool) :=
  some (x0.f0.toList==y0.toList)
theorem z8 (x0:GTask) (y0:ByteArray):Ans (sK x0 y0) (fun r=>Does E 78 [.agg (GTask.t .far x0),.im .far () [tS y0] 0] [(false,[tB r])]):=by
 unfold sK
 exact JG (DP Tryz.f78 [] AN)
def iR (x:GTask) (n:ByteArray):Bool:=x.f0.toList==n.toList
def lm (n:ByteArray):List GTask→Nat→Int
 | [],_ => -1
 | t::r,i=>cond (iR t n) (i:Int) (lm n r (i+1))
def aq (ts:List GTask) (n:ByteArray):Int:=lm n ts 0
theorem r7 (n:ByteArray):∀ (l:List GTask) (i:Nat),(lm n l i = -1∧∀ t∈l,iR t n=false)∨∃ (k:Nat) (t:GTask),lm n l i=((i+k:Nat):Int)∧l[k]?=some t∧iR t n=true
 | [],i => .inl ⟨rfl,fun t ht=>by cases ht⟩
 | t::l,i=>by
  unfold lm
  cases q:iR t n with
  | true=>exact .inr ⟨0,t,rfl,rfl,q⟩
  | false =>
   rw [cond_false]
   rcases r7 n l (i+1) with ⟨h,h'⟩ | ⟨k,u,h1,h2,h3⟩
   ·exact .inl ⟨h,fun u hu=>by rcases List.mem_cons.1 hu with rfl | hu;exact q;exact h' u hu⟩
   ·exact .inr ⟨k+1,u,by rw [h1];omega,h2,h3⟩
theorem Cv {ts:List GTask} {n:ByteArray} (h:0≤aq ts n):∃ t∈ts,tx t.f0=tx n:=by
 unfold aq at h
 rcases r7 n ts 0 with ⟨h',_⟩ | ⟨k,t,h1,h2,h3⟩
 ·rw [h'] at h;omega
 ·unfold iR at h3
  rw [nM,decide_eq_true_eq] at h3
  exact ⟨t,List.mem_of_getElem? h2,h3⟩
theorem Hu (n:ByteArray):∀ (l:List GTask) (i:Nat),(iw n l i).bind (fun y=>match y with
   | .ret w0_4=>(some (w0_4))
   | .x0=>(some ((-1:Int))))=some (lm n l i)
 | [],i=>rfl
 | t::l,i=>by
  unfold iw lm
  have e:(t.f0.toList==n.toList)=iR t n:=rfl
  rw [e]
  cases iR t n with
  | true=>rfl
  | false=>exact Hu n l (i+1)
theorem rV (x0:GTask) (y0:ByteArray):Does E 78 [.agg (GTask.t .far x0),.im .far () [tS y0] 0] [(false,[tB (iR x0 y0)])]:=by
 exact z8 x0 y0 _ rfl
theorem eG {q0:Kd} (x0:List GTask) (x1:ByteArray) (h:x0.length≤1050000):Does E 70 [.one (.s .far () 5 (x0.map (GTask.t q0))),.one (tS x1)] [(false,[tI (aq x0 x1)])]:=by
 exact FE x0 x1 _ (by unfold tr;rw [if_pos (by omega)];exact Hu x1 x0 0)
inductive fa where
 | ret (v4:Int)
 | x0 
def bi (q0:Kd) (v0:List GTask) (v1_0_0:ByteArray) (v7 v8:Int):US:=stL 19 [(0,.one (.s .far () 5 (v0.map (GTask.t q0)))),(1,.fni 78 [((),[tS v1_0_0])]),(7,.one (tI v7)),(8,.one (tI v8))]
def cJ (q0:Kd) (zv4:Int):US:=stL 19 [(4,.one (tI zv4))]
def cQ (q0:Kd)  : US:=stL 19 []
abbrev da:US→Exit→US→Prop:=Round E 77 (av Tryz.f77 0)
def jU {q0:Kd} (v0:List GTask) (v1_0_0:ByteArray) (v7 v8:Int):fa→Prop
 | .ret zv4=>Loops E 77 (av Tryz.f77 0) (bi q0 v0 v1_0_0 v7 v8) .ret (cJ q0 zv4)
 | .x0=>Loops E 77 (av Tryz.f77 0) (bi q0 v0 v1_0_0 v7 v8) (.exit 0) (cQ q0)
noncomputable def aY (v1_0_0:ByteArray):List GTask→Nat→Option fa
 | [],i=>some (.x0)
 | hd::rest,i=>cond (iR hd v1_0_0)
  (some (.ret (i:Int)))
  (aY v1_0_0 rest (i+1))
theorem jT {q0:Kd} (v0:List GTask) (v1_0_0:ByteArray) (rest:List GTask):∀ (i:Nat) ,(v0).drop i=rest→v0.length≤9223372036854775807→Ans (aY v1_0_0 rest i) (jU (q0:=q0) v0 v1_0_0 (v0.length:Int) (i:Int)):=by
 induction rest with
 | nil =>
  intro i hE hl
  have hb:=bG hE
  unfold aY
  exact JG (JI (show da (bi q0 v0 v1_0_0 (v0.length:Int) (i:Int)) (.exit 0) (cQ q0) from RP [.b false] (AC hb<|AN)) (by intro h;cases h))
 | cons hd rest ih =>
  intro i hE hl
  have hb:=bm hE
  have hw:=bn hE hl
  have hE2:=aK hE
  have hg:=bo hE
  unfold aY
  apply JJ<;>intro h2
  ·exact JG (JI (show da (bi q0 v0 v1_0_0 (v0.length:Int) (i:Int)) .ret (cJ q0 (i:Int)) from RP [.b true,.row ((GTask.t q0) hd),rT] (AC hb<|AR (GTask.t q0) hg<|AD (JO (rV hd v1_0_0) h2)<|AN)) (by intro h;cases h))
  ·exact (ih (i+1) hE2 hl).mono fun y hy=>by have r:da (bi q0 v0 v1_0_0 (v0.length:Int) (i:Int)) .normal (bi q0 v0 v1_0_0 (v0.length:Int) (inc (i:Int))):=RP [.b true,.row ((GTask.t q0) hd),rF] (AC hb<|AR (GTask.t q0) hg<|AD (JO (rV hd v1_0_0) h2)<|AN);rw [hw] at r;cases y<;>exact JH r hy
noncomputable def dk (x0:List GTask) (c1_0:ByteArray):Option (Int) :=
  if x0.length≤9223372036854775807 then (aY c1_0 x0 0).bind fun y=>match y with
   | .ret w0_4=>(some (w0_4))
   | .x0=>(some ((-1:Int))) else none
theorem kg {q0:Kd} (x0:List GTask) (c1_0:ByteArray):Ans (dk x0 c1_0) (fun r=>Does E 77 [.one (.s .far () 5 (x0.map (GTask.t q0))),.fni 78 [((),[tS c1_0])]] [(false,[tI r])]):=by
 unfold dk
 refine JL (fun hl1 => ?_)
 refine JK (fun y hy => ?_)
 replace hy:=jT (q0:=q0) x0 c1_0 x0 0 rfl hl1 y hy
 cases y with
 | ret w0_4 =>
  have h0:=hy
  exact JG (DP Tryz.f77 [.val (.int .i64 (x0.length:Int)),.lp .ret (cJ q0 w0_4)] (ALn x0 (GTask.t q0)<|AL h0<|AN))
 | x0 =>
  have h0:=hy
  exact JG (DP Tryz.f77 [.val (.int .i64 (x0.length:Int)),.lp (.exit 0) (cQ q0)] (ALn x0 (GTask.t q0)<|AL h0<|AN))
theorem Ht (n:ByteArray):∀ (l:List GTask) (i:Nat),(aY n l i).bind (fun y=>match y with
   | .ret w0_4=>(some (w0_4))
   | .x0=>(some ((-1:Int))))=some (lm n l i)
 | [],i=>rfl
 | t::l,i=>by
  unfold aY lm
  cases iR t n with
  | true=>rfl
  | false=>exact Ht n l (i+1)
theorem jY {q0:Kd} (x0:List GTask) (c1_0:ByteArray) (h:x0.length≤1050000):Does E 77 [.one (.s .far () 5 (x0.map (GTask.t q0))),.fni 78 [((),[tS c1_0])]] [(false,[tI (aq x0 c1_0)])]:=by
 exact kg x0 c1_0 _ (by unfold dk;rw [if_pos (by omega)];exact Ht c1_0 x0 0)
noncomputable def qO (x0:GDag) (x1:ByteArray):Option (Int) :=
  if x0.f5.length≤1050000 then some (aq x0.f5 x1) else none
theorem DH {q0:Kd} (x0:GDag) (x1:ByteArray):Ans (qO x0 x1) (fun r=>Does E 54 [.agg (GDag.t .far q0 x0),.one (tS x1)] [(false,[tI r])]):=by
 unfold qO
 refine JL (fun h0 => ?_)
 exact JG (DP Tryz.f54 [.ret [(false,[tI (aq x0.f5 x1)])]] (AV (ψ:=fun k=>E.C k 77 [.one (.s .far () 5 (x0.f5.map (GTask.t q0))),.fni 78 [((),[tS x1])]]=some [(false,[tI (aq x0.f5 x1)])]) (jY x0.f5 x1 h0)<|AN))
def cg (d:GDag) (n:ByteArray):Int:=aq d.f5 n
theorem fj {q0:Kd} (x0:GDag) (x1:ByteArray) (h:x0.f5.length≤1050000):Does E 54 [.agg (GDag.t .far q0 x0),.one (tS x1)] [(false,[tI (cg x0 x1)])]:=by
 exact DH x0 x1 _ (by unfold qO;rw [if_pos h];rfl)
end Go.Proofs.YtgaiiephdjllkaaGreatDoor.Am
namespace Go.Proofs.YtgaiiephdjllkaaGreatDoor.Am
open Go Go.Proofs Classical
set_option maxRecDepth 100000
set_option linter.unusedVariables false
set_option linter.unusedSimpArgs false
inductive oN where
 | ret (v6:Bool)
 | x0 
def eZ (q0:Kd) (v0_0 v0_1:ByteArray) (v0_2 v0_3:Int) (v0_4:Bool) (v0_5:List GTask) (v2:List Int) (v10:List ByteArray) (v11 v12:Int):US:=stL 25 [(0,.im .far () [tS v0_0,tS v0_1,tI v0_2,tI v0_3,tB v0_4,.s .far () 5 (v0_5.map (GTask.t q0))] 0),(2,.one (.s .far () 1 (v2.map etI))),(10,.one (.s .far () 1 (v10.map etS))),(11,.one (tI v11)),(12,.one (tI v12))]
def jk (q0:Kd) (zv6:Bool):US:=stL 25 [(6,.one (tB zv6))]
def jZ (q0:Kd)  : US:=stL 25 []
abbrev lA:US→Exit→US→Prop:=Round E 81 (av Tryz.f81 0)
def vE {q0:Kd} (v0_0 v0_1:ByteArray) (v0_2 v0_3:Int) (v0_4:Bool) (v0_5:List GTask) (v2:List Int) (v10:List ByteArray) (v11 v12:Int):oN→Prop
 | .ret zv6=>Loops E 81 (av Tryz.f81 0) (eZ q0 v0_0 v0_1 v0_2 v0_3 v0_4 v0_5 v2 v10 v11 v12) .ret (jk q0 zv6)
 | .x0=>Loops E 81 (av Tryz.f81 0) (eZ q0 v0_0 v0_1 v0_2 v0_3 v0_4 v0_5 v2 v10 v11 v12) (.exit 0) (jZ q0)
noncomputable def d7 (v0_0 v0_1:ByteArray) (v0_2 v0_3:Int) (v0_5:List GTask) (v2:List Int):List ByteArray→Nat→Bool→Option oN
 | [],i,v0_4=>some (.x0)
 | hd::rest,i,v0_4=>if (GDag.mk v0_0 v0_1 v0_2 v0_3 v0_4 v0_5).f5.length≤1050000 then if v2.length≤1050000 then cond (cl v2 (cg (GDag.mk v0_0 v0_1 v0_2 v0_3 v0_4 v0_5) hd))
  (d7 v0_0 v0_1 v0_2 v0_3 v0_5 v2 rest (i+1) v0_4)
  (some (.ret false)) else none else none
theorem vD {q0:Kd} (v0_0 v0_1:ByteArray) (v0_2 v0_3:Int) (v0_5:List GTask) (v2:List Int) (v10:List ByteArray) (rest:List ByteArray):∀ (i:Nat) (v0_4:Bool),(v10).drop i=rest→v10.length≤9223372036854775807→Ans (d7 v0_0 v0_1 v0_2 v0_3 v0_5 v2 rest i v0_4) (vE (q0:=q0) v0_0 v0_1 v0_2 v0_3 v0_4 v0_5 v2 v10 (v10.length:Int) (i:Int)):=by
 induction rest with
 | nil =>
  intro i v0_4 hE hl
  have hb:=bG hE
  unfold d7
  exact JG (JI (show lA (eZ q0 v0_0 v0_1 v0_2 v0_3 v0_4 v0_5 v2 v10 (v10.length:Int) (i:Int)) (.exit 0) (jZ q0) from RP [.b false] (AC hb<|AN)) (by intro h;cases h))
 | cons hd rest ih =>
  intro i v0_4 hE hl
  have hb:=bm hE
  have hw:=bn hE hl
  have hE2:=aK hE
  have hg:=bo hE
  unfold d7
  refine JL (fun h2 => ?_)
  refine JL (fun h3 => ?_)
  apply JJ<;>intro h4
  ·exact (ih (i+1) v0_4 hE2 hl).mono fun y hy=>by have r:lA (eZ q0 v0_0 v0_1 v0_2 v0_3 v0_4 v0_5 v2 v10 (v10.length:Int) (i:Int)) .normal (eZ q0 v0_0 v0_1 v0_2 v0_3 v0_4 v0_5 v2 v10 (v10.length:Int) (inc (i:Int))):=RP [.b true,.row (etS hd),.ret [(false,[tI (cg (GDag.mk v0_0 v0_1 v0_2 v0_3 v0_4 v0_5) hd)])],rT] (AC hb<|AR etS hg<|AV (ψ:=fun k=>E.C k 54 [.agg (GDag.t .far q0 (GDag.mk v0_0 v0_1 v0_2 v0_3 v0_4 v0_5)),.one (tS hd)]=some [(false,[tI (cg (GDag.mk v0_0 v0_1 v0_2 v0_3 v0_4 v0_5) hd)])]) (fj (GDag.mk v0_0 v0_1 v0_2 v0_3 v0_4 v0_5) hd h2)<|AD (JO (eU v2 (cg (GDag.mk v0_0 v0_1 v0_2 v0_3 v0_4 v0_5) hd) h3) h4)<|AN);rw [hw] at r;cases y<;>exact JH r hy
  ·exact JG (JI (show lA (eZ q0 v0_0 v0_1 v0_2 v0_3 v0_4 v0_5 v2 v10 (v10.length:Int) (i:Int)) .ret (jk q0 false) from RP [.b true,.row (etS hd),.ret [(false,[tI (cg (GDag.mk v0_0 v0_1 v0_2 v0_3 v0_4 v0_5) hd)])],rF] (AC hb<|AR etS hg<|AV (ψ:=fun k=>E.C k 54 [.agg (GDag.t .far q0 (GDag.mk v0_0 v0_1 v0_2 v0_3 v0_4 v0_5)),.one (tS hd)]=some [(false,[tI (cg (GDag.mk v0_0 v0_1 v0_2 v0_3 v0_4 v0_5) hd)])]) (fj (GDag.mk v0_0 v0_1 v0_2 v0_3 v0_4 v0_5) hd h2)<|AD (JO (eU v2 (cg (GDag.mk v0_0 v0_1 v0_2 v0_3 v0_4 v0_5) hd) h3) h4)<|AN)) (by intro h;cases h))
noncomputable def jC (x0:GDag) (x1:GTask) (x2:List Int):Option (Bool) :=
  if x1.f4.length≤9223372036854775807 then (d7 x0.f0 x0.f1 x0.f2 x0.f3 x0.f5 x2 x1.f4 0 x0.f4).bind fun y=>match y with
   | .ret w0_6=>(some (w0_6))
   | .x0=>(some (true)) else none
theorem wO {q0:Kd} (x0:GDag) (x1:GTask) (x2:List Int):Ans (jC x0 x1 x2) (fun r=>Does E 81 [.im .far () (GDag.t .far q0 x0) 0,.agg (GTask.t .far x1),.one (.s .far () 1 (x2.map etI))] [(false,[tB r])]):=by
 unfold jC
 refine JL (fun hl1 => ?_)
 refine JK (fun y hy => ?_)
 replace hy:=vD (q0:=q0) x0.f0 x0.f1 x0.f2 x0.f3 x0.f5 x2 x1.f4 x1.f4 0 x0.f4 rfl hl1 y hy
 cases y with
 | ret w0_6 =>
  have h0:=hy
  exact JG (DP Tryz.f81 [.val (.int .i64 (x1.f4.length:Int)),.lp .ret (jk q0 w0_6)] (ALn x1.f4 etS<|AL h0<|AN))
 | x0 =>
  have h0:=hy
  exact JG (DP Tryz.f81 [.val (.int .i64 (x1.f4.length:Int)),.lp (.exit 0) (jZ q0)] (ALn x1.f4 etS<|AL h0<|AN))
def oK (ts:List GTask) (o:List Int) (t:GTask):Bool:=t.f4.all fun n=>cl o (aq ts n)
def sR (d:GDag) (t:GTask) (o:List Int):Bool:=oK d.f5 o t
theorem E1 (a b:ByteArray) (c e:Int) (ts:List GTask) (o:List Int) (ht:ts.length≤1050000) (ho:o.length≤1050000):∀ (l:List ByteArray) (i:Nat) (z:Bool),d7 a b c e ts o l i z=some (cond (l.all fun n=>cl o (aq ts n)) .x0 (.ret false))
 | [],i,z=>rfl
 | n::l,i,z=>by
  unfold d7
  rw [if_pos (show (GDag.mk a b c e z ts).f5.length≤1050000 from ht),if_pos ho,List.all_cons,E1 a b c e ts o ht ho l (i+1) z]
  show cond (cl o (aq ts n)) _ _=_
  cases cl o (aq ts n)<;>rfl
theorem HB (d:GDag) (t:GTask) (o:List Int) (h1:d.f5.length≤1050000) (h2:t.f4.length≤1050000) (h3:o.length≤1050000):jC d t o=some (sR d t o):=by
 unfold jC
 rw [if_pos (by omega),E1 _ _ _ _ _ _ h1 h3]
 show _=some (t.f4.all fun n=>cl o (aq d.f5 n))
 cases t.f4.all fun n=>cl o (aq d.f5 n)<;>rfl
theorem wx {q0:Kd} (x0:GDag) (x1:GTask) (x2:List Int) (h1:x0.f5.length≤1050000) (h2:x1.f4.length≤1050000) (h3:x2.length≤1050000):Does E 81 [.im .far () (GDag.t .far q0 x0) 0,.agg (GTask.t .far x1),.one (.s .far () 1 (x2.map etI))] [(false,[tB (sR x0 x1 x2)])]:=by
 exact wO x0 x1 x2 _ (HB x0 x1 x2 h1 h2 h3)
noncomputable def m5 (x0:GTask) (y0:List Int) (y1:GDag):Option (Bool) :=
  if y1.f5.length≤1050000 then if y0.length≤1050000 then cond (cl y0 (cg y1 x0.f0))
   (some (false))
   (if x0.f4.length≤1050000 then some (sR y1 x0 y0) else none) else none else none
theorem yl {qy1:Kd} (x0:GTask) (y0:List Int) (y1:GDag):Ans (m5 x0 y0 y1) (fun r=>Does E 79 [.agg (GTask.t .far x0),.im .far () [.s .far () 1 (y0.map etI)] 0,.im .far () [tS y1.f0,tS y1.f1,tI y1.f2,tI y1.f3,tB y1.f4,.s .far () 5 (y1.f5.map (GTask.t qy1))] 0] [(false,[tB r])]):=by
 unfold m5
 refine JL (fun h0 => ?_)
 refine JL (fun h1 => ?_)
 apply JJ<;>intro h2
 ·exact JG (DP Tryz.f79 [.ret [(false,[tI (cg y1 x0.f0)])],rT] (AV (ψ:=fun k=>E.C k 54 [.agg (GDag.t .far qy1 y1),.one (tS x0.f0)]=some [(false,[tI (cg y1 x0.f0)])]) (fj y1 x0.f0 h0)<|AD (JO (eU y0 (cg y1 x0.f0) h1) h2)<|AN))
 ·refine JL (fun h3 => ?_)
  exact JG (DP Tryz.f79 [.ret [(false,[tI (cg y1 x0.f0)])],rF,.ret [(false,[tB (sR y1 x0 y0)])]] (AV (ψ:=fun k=>E.C k 54 [.agg (GDag.t .far qy1 y1),.one (tS x0.f0)]=some [(false,[tI (cg y1 x0.f0)])]) (fj y1 x0.f0 h0)<|AD (JO (eU y0 (cg y1 x0.f0) h1) h2)<|AV (ψ:=fun k=>E.C k 81 [.im .far () [tS y1.f0,tS y1.f1,tI y1.f2,tI y1.f3,tB y1.f4,.s .far () 5 (y1.f5.map (GTask.t qy1))] 0,.agg (GTask.t .far x0),.one (.s .far () 1 (y0.map etI))]=some [(false,[tB (sR y1 x0 y0)])]) (wx y1 x0 y0 h0 h3 h1)<|AN))
def uQ (t:GTask) (o:List Int) (d:GDag):Bool := !cl o (aq d.f5 t.f0)&&oK d.f5 o t
theorem rl {qy1:Kd} (x0:GTask) (y0:List Int) (y1:GDag) (h1:y1.f5.length≤1050000) (h2:x0.f4.length≤1050000) (h3:y0.length≤1050000):Does E 79 [.agg (GTask.t .far x0),.im .far () [.s .far () 1 (y0.map etI)] 0,.im .far () [tS y1.f0,tS y1.f1,tI y1.f2,tI y1.f3,tB y1.f4,.s .far () 5 (y1.f5.map (GTask.t qy1))] 0] [(false,[tB (uQ x0 y0 y1)])]:=by
 exact yl x0 y0 y1 _ (by
  unfold m5 uQ
  simp only [h1,h2,h3,if_true]
  show cond (cl y0 (aq y1.f5 x0.f0)) _ _=_
  cases cl y0 (aq y1.f5 x0.f0)<;>rfl)
inductive eS where
 | ret (v4:Int)
 | x0 
def bh (q0:Kd) (qc1_1:Kd) (v0:List GTask) (v1_0_0:List Int) (v1_1_0 v1_1_1:ByteArray) (v1_1_2 v1_1_3:Int) (v1_1_4:Bool) (v1_1_5:List GTask) (v7 v8:Int):US:=stL 19 [(0,.one (.s .far () 5 (v0.map (GTask.t q0)))),(1,.fni 79 [((),[.s .far () 1 (v1_0_0.map etI)]),((),[tS v1_1_0,tS v1_1_1,tI v1_1_2,tI v1_1_3,tB v1_1_4,.s .far () 5 (v1_1_5.map (GTask.t qc1_1))])]),(7,.one (tI v7)),(8,.one (tI v8))]
def cD (q0:Kd) (qc1_1:Kd) (zv4:Int):US:=stL 19 [(4,.one (tI zv4))]
def cK (q0:Kd) (qc1_1:Kd)  : US:=stL 19 []
abbrev cV:US→Exit→US→Prop:=Round E 77 (av Tryz.f77 0)
def ju {q0:Kd} {qc1_1:Kd} (v0:List GTask) (v1_0_0:List Int) (v1_1_0 v1_1_1:ByteArray) (v1_1_2 v1_1_3:Int) (v1_1_4:Bool) (v1_1_5:List GTask) (v7 v8:Int):eS→Prop
 | .ret zv4=>Loops E 77 (av Tryz.f77 0) (bh q0 qc1_1 v0 v1_0_0 v1_1_0 v1_1_1 v1_1_2 v1_1_3 v1_1_4 v1_1_5 v7 v8) .ret (cD q0 qc1_1 zv4)
 | .x0=>Loops E 77 (av Tryz.f77 0) (bh q0 qc1_1 v0 v1_0_0 v1_1_0 v1_1_1 v1_1_2 v1_1_3 v1_1_4 v1_1_5 v7 v8) (.exit 0) (cK q0 qc1_1)
noncomputable def aV (v1_0_0:List Int) (v1_1_0 v1_1_1:ByteArray) (v1_1_2 v1_1_3:Int) (v1_1_5:List GTask):List GTask→Nat→Bool→Option eS
 | [],i,v1_1_4=>some (.x0)
 | hd::rest,i,v1_1_4=>if (GDag.mk v1_1_0 v1_1_1 v1_1_2 v1_1_3 v1_1_4 v1_1_5).f5.length≤1050000 then if hd.f4.length≤1050000 then if v1_0_0.length≤1050000 then cond (uQ hd v1_0_0 (GDag.mk v1_1_0 v1_1_1 v1_1_2 v1_1_3 v1_1_4 v1_1_5))
  (some (.ret (i:Int)))
  (aV v1_0_0 v1_1_0 v1_1_1 v1_1_2 v1_1_3 v1_1_5 rest (i+1) v1_1_4) else none else none else none
theorem jt {q0:Kd} {qc1_1:Kd} (v0:List GTask) (v1_0_0:List Int) (v1_1_0 v1_1_1:ByteArray) (v1_1_2 v1_1_3:Int) (v1_1_5:List GTask) (rest:List GTask):∀ (i:Nat) (v1_1_4:Bool),(v0).drop i=rest→v0.length≤9223372036854775807→Ans (aV v1_0_0 v1_1_0 v1_1_1 v1_1_2 v1_1_3 v1_1_5 rest i v1_1_4) (ju (q0:=q0) (qc1_1:=qc1_1) v0 v1_0_0 v1_1_0 v1_1_1 v1_1_2 v1_1_3 v1_1_4 v1_1_5 (v0.length:Int) (i:Int)):=by
 induction rest with
 | nil =>
  intro i v1_1_4 hE hl
  have hb:=bG hE
  unfold aV
  exact JG (JI (show cV (bh q0 qc1_1 v0 v1_0_0 v1_1_0 v1_1_1 v1_1_2 v1_1_3 v1_1_4 v1_1_5 (v0.length:Int) (i:Int)) (.exit 0) (cK q0 qc1_1) from RP [.b false] (AC hb<|AN)) (by intro h;cases h))
 | cons hd rest ih =>
  intro i v1_1_4 hE hl
  have hb:=bm hE
  have hw:=bn hE hl
  have hE2:=aK hE
  have hg:=bo hE
  unfold aV
  refine JL (fun h2 => ?_)
  refine JL (fun h3 => ?_)
  refine JL (fun h4 => ?_)
  apply JJ<;>intro h5
  ·exact JG (JI (show cV (bh q0 qc1_1 v0 v1_0_0 v1_1_0 v1_1_1 v1_1_2 v1_1_3 v1_1_4 v1_1_5 (v0.length:Int) (i:Int)) .ret (cD q0 qc1_1 (i:Int)) from RP [.b true,.row ((GTask.t q0) hd),rT] (AC hb<|AR (GTask.t q0) hg<|AV (ψ:=fun k=>E.C k 79 [.agg (GTask.t .far hd),.im .far () [.s .far () 1 (v1_0_0.map etI)] 0,.im .far () [tS v1_1_0,tS v1_1_1,tI v1_1_2,tI v1_1_3,tB v1_1_4,.s .far () 5 (v1_1_5.map (GTask.t qc1_1))] 0]=some [(false,[tB true])]) (JM (rl hd v1_0_0 (GDag.mk v1_1_0 v1_1_1 v1_1_2 v1_1_3 v1_1_4 v1_1_5) h2 h3 h4) (by rw [h5]))<|AN)) (by intro h;cases h))
  ·exact (ih (i+1) v1_1_4 hE2 hl).mono fun y hy=>by have r:cV (bh q0 qc1_1 v0 v1_0_0 v1_1_0 v1_1_1 v1_1_2 v1_1_3 v1_1_4 v1_1_5 (v0.length:Int) (i:Int)) .normal (bh q0 qc1_1 v0 v1_0_0 v1_1_0 v1_1_1 v1_1_2 v1_1_3 v1_1_4 v1_1_5 (v0.length:Int) (inc (i:Int))):=RP [.b true,.row ((GTask.t q0) hd),rF] (AC hb<|AR (GTask.t q0) hg<|AV (ψ:=fun k=>E.C k 79 [.agg (GTask.t .far hd),.im .far () [.s .far () 1 (v1_0_0.map etI)] 0,.im .far () [tS v1_1_0,tS v1_1_1,tI v1_1_2,tI v1_1_3,tB v1_1_4,.s .far () 5 (v1_1_5.map (GTask.t qc1_1))] 0]=some [(false,[tB false])]) (JM (rl hd v1_0_0 (GDag.mk v1_1_0 v1_1_1 v1_1_2 v1_1_3 v1_1_4 v1_1_5) h2 h3 h4) (by rw [h5]))<|AN);rw [hw] at r;cases y<;>exact JH r hy
noncomputable def ce (x0:List GTask) (c1_0:List Int) (c1_1:GDag):Option (Int) :=
  if x0.length≤9223372036854775807 then (aV c1_0 c1_1.f0 c1_1.f1 c1_1.f2 c1_1.f3 c1_1.f5 x0 0 c1_1.f4).bind fun y=>match y with
   | .ret w0_4=>(some (w0_4))
   | .x0=>(some ((-1:Int))) else none
theorem jV {q0:Kd} {qc1_1:Kd} (x0:List GTask) (c1_0:List Int) (c1_1:GDag):Ans (ce x0 c1_0 c1_1) (fun r=>Does E 77 [.one (.s .far () 5 (x0.map (GTask.t q0))),.fni 79 [((),[.s .far () 1 (c1_0.map etI)]),((),[tS c1_1.f0,tS c1_1.f1,tI c1_1.f2,tI c1_1.f3,tB c1_1.f4,.s .far () 5 (c1_1.f5.map (GTask.t qc1_1))])]] [(false,[tI r])]):=by
 unfold ce
 refine JL (fun hl1 => ?_)
 refine JK (fun y hy => ?_)
 replace hy:=jt (q0:=q0) (qc1_1:=qc1_1) x0 c1_0 c1_1.f0 c1_1.f1 c1_1.f2 c1_1.f3 c1_1.f5 x0 0 c1_1.f4 rfl hl1 y hy
 cases y with
 | ret w0_4 =>
  have h0:=hy
  exact JG (DP Tryz.f77 [.val (.int .i64 (x0.length:Int)),.lp .ret (cD q0 qc1_1 w0_4)] (ALn x0 (GTask.t q0)<|AL h0<|AN))
 | x0 =>
  have h0:=hy
  exact JG (DP Tryz.f77 [.val (.int .i64 (x0.length:Int)),.lp (.exit 0) (cK q0 qc1_1)] (ALn x0 (GTask.t q0)<|AL h0<|AN))
def ex (o:List Int) (ts:List GTask):List GTask→Nat→Option Nat
 | [],_=>none
 | t::r,i=>if (!cl o (aq ts t.f0)&&oK ts o t)=true then some i else ex o ts r (i+1)
def cb (l:List GTask) (o:List Int) (d:GDag):Int:=match ex o d.f5 l 0 with | some i=>(i:Int) | none => -1
theorem Fh (o:List Int) (a b:ByteArray) (c e:Int) (ts:List GTask) (ht:ts.length≤1050000) (ho:o.length≤1050000):∀ (l:List GTask) (i:Nat) (z:Bool),ak.sm l→aV o a b c e ts l i z=some (match ex o ts l i with | some k => .ret (k:Int) | none => .x0)
 | [],i,z,_=>rfl
 | t::l,i,z,hl=>by
  unfold aV ex
  have h4:t.f4.length≤1050000:=(hl.2 t (by simp)).2.2.1
  rw [if_pos (show (GDag.mk a b c e z ts).f5.length≤1050000 from ht),if_pos h4,if_pos ho,Fh o a b c e ts ht ho l (i+1) z ⟨by have:=hl.1;simp at this;omega,fun y hy=>hl.2 y (by simp [hy])⟩]
  show cond (!cl o (aq ts t.f0)&&oK ts o t) _ _=_
  cases (!cl o (aq ts t.f0)&&oK ts o t)<;>rfl
theorem HL (l:List GTask) (o:List Int) (d:GDag) (h1:ak.sm l) (h2:d.f5.length≤1050000) (h3:o.length≤1050000):ce l o d=some (cb l o d):=by
 unfold ce cb
 rw [if_pos (by have:=h1.1;omega),Fh o d.f0 d.f1 d.f2 d.f3 d.f5 h2 h3 l 0 d.f4 h1]
 cases ex o d.f5 l 0<;>rfl
theorem eV {q0:Kd} {qc1_1:Kd} (x0:List GTask) (c1_0:List Int) (c1_1:GDag) (h1:ak.sm x0) (h2:c1_1.f5.length≤1050000) (h3:c1_0.length≤1050000):Does E 77 [.one (.s .far () 5 (x0.map (GTask.t q0))),.fni 79 [((),[.s .far () 1 (c1_0.map etI)]),((),[tS c1_1.f0,tS c1_1.f1,tI c1_1.f2,tI c1_1.f3,tB c1_1.f4,.s .far () 5 (c1_1.f5.map (GTask.t qc1_1))])]] [(false,[tI (cb x0 c1_0 c1_1)])]:=by
 exact jV x0 c1_0 c1_1 _ (HL x0 c1_0 c1_1 h1 h2 h3)
inductive sN where
 | ret (v2:List Int)
def lC (q0:Kd) (v1_0 v1_1:ByteArray) (v1_2 v1_3:Int) (v1_4:Bool) (v1_5:List GTask) (v3_0:List Int):US:=stL 16 [(1,.box () [tS v1_0,tS v1_1,tI v1_2,tI v1_3,tB v1_4,.s .far () 5 (v1_5.map (GTask.t q0))]),(3,.box () [.s .own () 1 (v3_0.map etI)])]
def iY (q0:Kd) (zv2:List Int):US:=stL 16 [(2,.one (.s .own () 1 (zv2.map etI)))]
abbrev sM:US→Exit→US→Prop:=Round E 55 (av Tryz.f55 0)
def Ab {q0:Kd} (v1_0 v1_1:ByteArray) (v1_2 v1_3:Int) (v1_4:Bool) (v1_5:List GTask) (v3_0:List Int):sN→Prop
 | .ret zv2=>Loops E 55 (av Tryz.f55 0) (lC q0 v1_0 v1_1 v1_2 v1_3 v1_4 v1_5 v3_0) .ret (iY q0 zv2)
noncomputable def gM (v1_0 v1_1:ByteArray) (v1_2 v1_3:Int) (v1_5:List GTask):Nat→Bool→(List Int)→Option sN
 | 0,_,_=>none
 | n+1,v1_4,v3_0=>if ak.sm v1_5 then if (GDag.mk v1_0 v1_1 v1_2 v1_3 v1_4 v1_5).f5.length≤1050000 then if v3_0.length≤1050000 then cond (decide ((cb v1_5 v3_0 (GDag.mk v1_0 v1_1 v1_2 v1_3 v1_4 v1_5))<(0:Int)))
  (some (.ret v3_0))
  (if (v3_0.length+([cb v1_5 v3_0 (GDag.mk v1_0 v1_1 v1_2 v1_3 v1_4 v1_5)]).length)*8≤140737488355328∧v3_0.length+([cb v1_5 v3_0 (GDag.mk v1_0 v1_1 v1_2 v1_3 v1_4 v1_5)]).length≤4611686018427387904 then gM v1_0 v1_1 v1_2 v1_3 v1_5 n v1_4 (v3_0++([cb v1_5 v3_0 (GDag.mk v1_0 v1_1 v1_2 v1_3 v1_4 v1_5)])) else none) else none else none else none
theorem Aa {q0:Kd} (v1_0 v1_1:ByteArray) (v1_2 v1_3:Int) (v1_5:List GTask) (n:Nat):∀ (v1_4:Bool) (v3_0:List Int),Ans (gM v1_0 v1_1 v1_2 v1_3 v1_5 n v1_4 v3_0) (Ab (q0:=q0) v1_0 v1_1 v1_2 v1_3 v1_4 v1_5 v3_0):=by
 induction n with
 | zero=>intros;exact Ans.none
 | succ n ih =>
  intro v1_4 v3_0
  unfold gM
  refine JL (fun h0 => ?_)
  refine JL (fun h1 => ?_)
  refine JL (fun h2 => ?_)
  apply JJ<;>intro h3
  ·exact JG (JI (show sM (lC q0 v1_0 v1_1 v1_2 v1_3 v1_4 v1_5 v3_0) .ret (iY q0 v3_0) from Round.to (RP (D':=stL 16 [(2,.one (.s .own () 1 (((v3_0.map etI).drop 0).take (v3_0.map etI).length)))]) [.ret [(false,[tI (cb v1_5 v3_0 (GDag.mk v1_0 v1_1 v1_2 v1_3 v1_4 v1_5))])],.b true] (AV (ψ:=fun k=>E.C k 77 [.one (.s .far () 5 (v1_5.map (GTask.t q0))),.fni 79 [((),[.s .far () 1 (v3_0.map etI)]),((),[tS v1_0,tS v1_1,tI v1_2,tI v1_3,tB v1_4,.s .far () 5 (v1_5.map (GTask.t q0))])]]=some [(false,[tI (cb v1_5 v3_0 (GDag.mk v1_0 v1_1 v1_2 v1_3 v1_4 v1_5))])]) (eV v1_5 v3_0 (GDag.mk v1_0 v1_1 v1_2 v1_3 v1_4 v1_5) h0 h1 h2)<|AC h3<|AN)) (by simp only [iY,List.take_length,List.drop_zero])) (by intro h;cases h))
  ·refine JL (fun h4 => ?_)
   have r:sM (lC q0 v1_0 v1_1 v1_2 v1_3 v1_4 v1_5 v3_0) .normal (lC q0 v1_0 v1_1 v1_2 v1_3 v1_4 v1_5 (v3_0++([cb v1_5 v3_0 (GDag.mk v1_0 v1_1 v1_2 v1_3 v1_4 v1_5)]))):=RP [.ret [(false,[tI (cb v1_5 v3_0 (GDag.mk v1_0 v1_1 v1_2 v1_3 v1_4 v1_5))])],.b false,.rows ((v3_0++([cb v1_5 v3_0 (GDag.mk v1_0 v1_1 v1_2 v1_3 v1_4 v1_5)])).map etI)] (AV (ψ:=fun k=>E.C k 77 [.one (.s .far () 5 (v1_5.map (GTask.t q0))),.fni 79 [((),[.s .far () 1 (v3_0.map etI)]),((),[tS v1_0,tS v1_1,tI v1_2,tI v1_3,tB v1_4,.s .far () 5 (v1_5.map (GTask.t q0))])]]=some [(false,[tI (cb v1_5 v3_0 (GDag.mk v1_0 v1_1 v1_2 v1_3 v1_4 v1_5))])]) (eV v1_5 v3_0 (GDag.mk v1_0 v1_1 v1_2 v1_3 v1_4 v1_5) h0 h1 h2)<|AC h3<|AC (p:=(((([cb v1_5 v3_0 (GDag.mk v1_0 v1_1 v1_2 v1_3 v1_4 v1_5)]).map etI).drop 0).take (([cb v1_5 v3_0 (GDag.mk v1_0 v1_1 v1_2 v1_3 v1_4 v1_5)]).map etI).length).all (fun r=>r.all T.flat)=true∧((((v3_0.map etI).drop 0).take (v3_0.map etI).length).length+(((([cb v1_5 v3_0 (GDag.mk v1_0 v1_1 v1_2 v1_3 v1_4 v1_5)]).map etI).drop 0).take (([cb v1_5 v3_0 (GDag.mk v1_0 v1_1 v1_2 v1_3 v1_4 v1_5)]).map etI).length).length)*8≤140737488355328∧(((v3_0.map etI).drop 0).take (v3_0.map etI).length).length+(((([cb v1_5 v3_0 (GDag.mk v1_0 v1_1 v1_2 v1_3 v1_4 v1_5)]).map etI).drop 0).take (([cb v1_5 v3_0 (GDag.mk v1_0 v1_1 v1_2 v1_3 v1_4 v1_5)]).map etI).length).length≤4611686018427387904) (by simp only [List.take_length,List.drop_zero];exact GF (fun x=>rfl) h4)<|AC (p:=(((v3_0.map etI).drop 0).take (v3_0.map etI).length)++(((([cb v1_5 v3_0 (GDag.mk v1_0 v1_1 v1_2 v1_3 v1_4 v1_5)]).map etI).drop 0).take (([cb v1_5 v3_0 (GDag.mk v1_0 v1_1 v1_2 v1_3 v1_4 v1_5)]).map etI).length)=(v3_0++([cb v1_5 v3_0 (GDag.mk v1_0 v1_1 v1_2 v1_3 v1_4 v1_5)])).map etI) (by simp only [List.take_length,List.drop_zero];exact Ew)<|AN);exact (ih v1_4 (v3_0++([cb v1_5 v3_0 (GDag.mk v1_0 v1_1 v1_2 v1_3 v1_4 v1_5)]))).mono fun y hy=>by cases y<;>exact JH r hy
noncomputable def mA (x0:GDag):Option ((List Int)) :=
  (gM x0.f0 x0.f1 x0.f2 x0.f3 x0.f5 9223372036854775808 x0.f4 ([])).bind fun y=>match y with
   | .ret w0_2=>(some (w0_2))
theorem B3 {q0:Kd} (x0:GDag):Ans (mA x0) (fun r=>Does E 55 [.agg (GDag.t .far q0 x0)] [(false,[.s .own () 1 (r.map etI)])]):=by
 unfold mA
 refine JK (fun y hy => ?_)
 replace hy:=Aa (q0:=q0) x0.f0 x0.f1 x0.f2 x0.f3 x0.f5 9223372036854775808 x0.f4 ([]) y hy
 cases y with
 | ret w0_2 =>
  have h0:=hy
  exact JG (DP Tryz.f55 [.lp .ret (iY q0 w0_2)] (AL h0<|AN))
def fo (ts:List GTask):Prop:=ts.length≤4∧∀ (i:Nat) (t:GTask),ts[i]?=some t→aq ts t.f0=(i:Int)
def kp (ts:List GTask):Nat→List Int→List Int
 | 0,o=>o
 | k+1,o=>match ex o ts ts 0 with | none=>o | some i=>kp ts k (o++[(i:Int)])
def lM (ts:List GTask):List Int:=kp ts ts.length []
def mh (d:GDag):List Int:=lM d.f5
theorem Ae {o:List Int} {x:Int}:cl o x=true↔x∈o:=by
 unfold cl
 rw [List.any_eq_true]
 constructor
 ·rintro ⟨y,h,e⟩;rw [beq_iff_eq] at e;subst e;exact h
 ·intro h;exact ⟨x,h,by simp⟩
theorem rC {o:List Int} {ts:List GTask}:∀ {l:List GTask} {i k:Nat},ex o ts l i=some k→∃ t j,k=i+j∧l[j]?=some t∧cl o (aq ts t.f0)=false∧oK ts o t=true
 | [],i,k,h=>by cases h
 | t::l,i,k,h=>by
  unfold ex at h
  split at h
  ·rename_i q
   cases h
   simp only [Bool.and_eq_true,Bool.not_eq_true'] at q
   exact ⟨t,0,rfl,rfl,q.1,q.2⟩
  ·obtain ⟨u,j,h1,h2,h3⟩:=rC h
   exact ⟨u,j+1,by omega,h2,h3⟩
def tF (n:Nat) (o:List Int):Nat:=((List.range n).filter fun i:Nat => !cl o (i:Int)).length
theorem xH {α:Type} {p q:α→Bool}:∀ {l:List α},(∀ y,q y=true→p y=true)→(l.filter q).length≤(l.filter p).length
 | [],_=>by simp
 | z::l,h=>by
  have ih:=xH (l:=l) h
  rw [List.filter_cons,List.filter_cons]
  cases a:q z with
  | true=>rw [h z a];simpa using ih
  | false=>cases p z<;>simp<;>omega
theorem xI {α:Type} {p q:α→Bool} {x:α}:∀ {l:List α},(∀ y,q y=true→p y=true)→x∈l→p x=true→q x=false→(l.filter q).length<(l.filter p).length
 | y::l,h,hx,h1,h2=>by
  have le:=xH (l:=l) h
  rw [List.filter_cons,List.filter_cons]
  rcases List.mem_cons.1 hx with rfl | hx
  ·rw [h1,h2];simp;omega
  ·have:=xI (l:=l) h hx h1 h2
   cases a:q y with
   | true=>rw [h y a];simpa using this
   | false=>cases p y<;>simp<;>omega
theorem Fe {n i:Nat} {o:List Int} (hi:i<n) (h:cl o (i:Int)=false):tF n (o++[(i:Int)])<tF n o:=by
 unfold tF
 refine xI (p:=fun i:Nat => !cl o (i:Int)) (q:=fun j:Nat => !cl (o++[(i:Int)]) (j:Int)) (x:=i) (fun y hy => ?_) (List.mem_range.2 hi) (by rw [h];rfl) ?_
 ·rw [Bool.not_eq_true'] at hy ⊢
  rw [← Bool.not_eq_true,Ae] at hy ⊢
  exact fun e=>hy (by simp [e])
 ·have:cl (o++[(i:Int)]) (i:Int)=true:=Ae.2 (by simp)
  rw [this];rfl
theorem Gr (n:Nat):tF n []=n:=by
 unfold tF
 have:(List.range n).filter (fun i:Nat => !cl [] (i:Int))=List.range n:=List.filter_eq_self.2 fun a _=>rfl
 rw [this,List.length_range]
theorem CR (a b:ByteArray) (c e:Int) (ts:List GTask) (hs:ak.sm ts) (hg:fo ts):∀ (k n:Nat) (o:List Int) (z:Bool),tF ts.length o≤k→k<n→o.length+k≤1000→gM a b c e ts n z o=some (.ret (kp ts k o))
 | k,0,o,z,_,hn,_=>by omega
 | k,n+1,o,z,hk,hn,hl=>by
  unfold gM
  rw [if_pos hs,if_pos (show (GDag.mk a b c e z ts).f5.length≤1050000 from hs.1),if_pos (by omega)]
  have hx:cb ts o (GDag.mk a b c e z ts)=match ex o ts ts 0 with | some i=>(i:Int) | none => -1:=rfl
  rw [hx]
  cases q:ex o ts ts 0 with
  | none =>
   have:kp ts k o=o:=by
    cases k with
    | zero=>rfl
    | succ k=>unfold kp;rw [q]
   rw [this];rfl
  | some i =>
   obtain ⟨t,j,h1,h2,h3,h4⟩:=rC q
   have hij:i=j:=by omega
   subst hij
   rw [hg.2 i t h2] at h3
   have hi:i<ts.length:=by
    rcases Nat.lt_or_ge i ts.length with g | g
    ·exact g
    ·rw [List.getElem?_eq_none g] at h2;cases h2
   have less:=Fe hi h3
   obtain ⟨k,rfl⟩:∃ m,k=m+1:=⟨k-1,by omega⟩
   have ih:=CR a b c e ts hs hg k n (o++[(i:Int)]) z (by omega) (by omega) (by simp;omega)
   simp only
   rw [decide_eq_false (by omega),cond_false,if_pos (by simp;omega),ih]
   conv=>rhs;unfold kp
   rw [q]
theorem Fn (d:GDag) (h:ak.sm d) (hg:fo d.f5):mA d=some (mh d):=by
 have hs:ak.sm d.f5:=h.2.2
 unfold mA
 have:=CR d.f0 d.f1 d.f2 d.f3 d.f5 hs hg d.f5.length 9223372036854775808 [] d.f4 (by rw [Gr];exact Nat.le_refl _) (by have:=hg.1;omega) (by have:=hg.1;simp;omega)
 refine (congrArg (Option.bind · _) this).trans rfl
theorem Bx {q0:Kd} (x0:GDag) (h:ak.sm x0) (hg:fo x0.f5):Does E 55 [.agg (GDag.t .far q0 x0)] [(false,[.s .own () 1 ((mh x0).map etI)])]:=by
 exact B3 x0 _ (Fn x0 h hg)
inductive rN where
 | x4 (v6:Bool)
def fe (q0:Kd) (v0:List GTask) (v3:List Int) (v4 v5:Int) (v6:Bool) (v7:Int):US:=stL 57 [(0,.one (.s .far () 5 (v0.map (GTask.t q0)))),(3,.one (.s .own () 1 (v3.map etI))),(4,.one (tI v4)),(5,.one (tI v5)),(6,.one (tB v6)),(7,.one (tI v7))]
def gw (q0:Kd) (v0:List GTask) (v3:List Int) (v4 v5:Int) (zv6:Bool):US:=stL 57 [(0,.one (.s .far () 5 (v0.map (GTask.t q0)))),(3,.one (.s .own () 1 (v3.map etI))),(4,.one (tI v4)),(5,.one (tI v5)),(6,.one (tB zv6))]
abbrev kM:US→Exit→US→Prop:=Round E 48 (av Tryz.f48 2)
def yR {q0:Kd} (v0:List GTask) (v3:List Int) (v4 v5:Int) (v6:Bool) (v7:Int):rN→Prop
 | .x4 zv6=>Loops E 48 (av Tryz.f48 2) (fe q0 v0 v3 v4 v5 v6 v7) (.exit 4) (gw q0 v0 v3 v4 v5 zv6)
noncomputable def es (v0:List GTask) (v3:List Int) (v5:Int):Nat→Bool→Int→Option rN
 | 0,_,_=>none
 | n+1,v6,v7=>match v6 with
  | true=>(aN v0 v5).bind fun g0=>cond (decide (v7<(g0.f4.length:Int)))
   ((aN g0.f4 v7).bind fun g1=>if v0.length≤1050000 then if v3.length≤1050000 then es v0 v3 v5 n (cl v3 (aq v0 g1)) (inc v7) else none else none)
   (some (.x4 v6))
  | false=>(aN v0 v5).bind fun g0=>cond (decide (v7<(g0.f4.length:Int)))
   (es v0 v3 v5 n false (inc v7))
   (some (.x4 v6))
theorem yO {q0:Kd} (v0:List GTask) (v3:List Int) (v4 v5:Int) (n:Nat):∀ (v6:Bool) (v7:Int),Ans (es v0 v3 v5 n v6 v7) (yR (q0:=q0) v0 v3 v4 v5 v6 v7):=by
 induction n with
 | zero=>intros;exact Ans.none
 | succ n ih =>
  intro v6 v7
  unfold es
  cases v6 with
  | true =>
   refine JK (fun g0 h0 => ?_)
   apply JJ<;>intro h1
   ·refine JK (fun g1 h2 => ?_)
    refine JL (fun h3 => ?_)
    refine JL (fun h4 => ?_)
    have r:kM (fe q0 v0 v3 v4 v5 true v7) .normal (fe q0 v0 v3 v4 v5 (cl v3 (aq v0 g1)) (inc v7)):=RP [.row ((GTask.t q0) g0),.val (.int .i64 (g0.f4.length:Int)),.b true,.row ((GTask.t q0) g0),.row (etS g1),.ret [(false,[tI (aq v0 g1)])],.ret [(false,[tB (cl v3 (aq v0 g1))])]] (AR (GTask.t q0) h0<|ALn g0.f4 etS<|AC h1<|AR (GTask.t q0) h0<|AR etS h2<|AV (ψ:=fun k=>E.C k 70 [.one (.s .far () 5 (v0.map (GTask.t q0))),.one (tS g1)]=some [(false,[tI (aq v0 g1)])]) (eG v0 g1 h3)<|AV (ψ:=fun k=>E.C k 72 [.one (.s .far () 1 (((v3.map etI).drop 0).take (v3.map etI).length)),.one (tI (aq v0 g1))]=some [(false,[tB (cl v3 (aq v0 g1))])]) (JN (by simp only [List.take_length,List.drop_zero]) (oG v3 (aq v0 g1) h4))<|AN);exact (ih (cl v3 (aq v0 g1)) (inc v7)).mono fun y hy=>by cases y<;>exact JH r hy
   ·exact JG (JI (show kM (fe q0 v0 v3 v4 v5 true v7) (.exit 4) (gw q0 v0 v3 v4 v5 true) from RP [.row ((GTask.t q0) g0),.val (.int .i64 (g0.f4.length:Int)),.b false] (AR (GTask.t q0) h0<|ALn g0.f4 etS<|AC h1<|AN)) (by intro h;cases h))
  | false =>
   refine JK (fun g0 h0 => ?_)
   apply JJ<;>intro h1
   ·have r:kM (fe q0 v0 v3 v4 v5 false v7) .normal (fe q0 v0 v3 v4 v5 false (inc v7)):=RP [.row ((GTask.t q0) g0),.val (.int .i64 (g0.f4.length:Int)),.b true] (AR (GTask.t q0) h0<|ALn g0.f4 etS<|AC h1<|AN);exact (ih false (inc v7)).mono fun y hy=>by cases y<;>exact JH r hy
   ·exact JG (JI (show kM (fe q0 v0 v3 v4 v5 false v7) (.exit 4) (gw q0 v0 v3 v4 v5 false) from RP [.row ((GTask.t q0) g0),.val (.int .i64 (g0.f4.length:Int)),.b false] (AR (GTask.t q0) h0<|ALn g0.f4 etS<|AC h1<|AN)) (by intro h;cases h))
inductive rM where
 | x2 (v3:List Int)
def ep (q0:Kd) (v0:List GTask) (v3:List Int) (v4 v5:Int):US:=stL 57 [(0,.one (.s .far () 5 (v0.map (GTask.t q0)))),(3,.one (.s .own () 1 (v3.map etI))),(4,.one (tI v4)),(5,.one (tI v5))]
def lY (q0:Kd) (v0:List GTask) (v4:Int) (zv3:List Int):US:=stL 57 [(0,.one (.s .far () 5 (v0.map (GTask.t q0)))),(3,.one (.s .own () 1 (zv3.map etI))),(4,.one (tI v4))]
abbrev kL:US→Exit→US→Prop:=Round E 48 (av Tryz.f48 1)
def yQ {q0:Kd} (v0:List GTask) (v3:List Int) (v4 v5:Int):rM→Prop
 | .x2 zv3=>Loops E 48 (av Tryz.f48 1) (ep q0 v0 v3 v4 v5) (.exit 2) (lY q0 v0 v4 zv3)
noncomputable def c6 (v0:List GTask):Nat→(List Int)→Int→Option rM
 | 0,_,_=>none
 | n+1,v3,v5=>cond (decide (v5<(v0.length:Int)))
  (if v3.length≤1050000 then cond (cl v3 v5)
   (c6 v0 n v3 (inc v5))
   ((es v0 v3 v5 9223372036854775808 true (0:Int)).bind fun y=>match y with
    | .x4 w0_6=>(match w0_6 with
     | true=>if (v3.length+([v5]).length)*8≤140737488355328∧v3.length+([v5]).length≤4611686018427387904 then c6 v0 n (v3++([v5])) (inc (v0.length:Int)) else none
     | false=>c6 v0 n v3 (inc v5))) else none)
  (some (.x2 v3))
theorem yN {q0:Kd} (v0:List GTask) (v4:Int) (n:Nat):∀ (v3:List Int) (v5:Int),Ans (c6 v0 n v3 v5) (yQ (q0:=q0) v0 v3 v4 v5):=by
 induction n with
 | zero=>intros;exact Ans.none
 | succ n ih =>
  intro v3 v5
  unfold c6
  apply JJ<;>intro h0
  ·refine JL (fun h1 => ?_)
   apply JJ<;>intro h2
   ·have r:kL (ep q0 v0 v3 v4 v5) .normal (ep q0 v0 v3 v4 (inc v5)):=RP [.val (.int .i64 (v0.length:Int)),.b true,rT] (ALn v0 (GTask.t q0)<|AC h0<|AV (ψ:=fun k=>E.C k 72 [.one (.s .far () 1 (((v3.map etI).drop 0).take (v3.map etI).length)),.one (tI v5)]=some [(false,[tB true])]) (JN (by simp only [List.take_length,List.drop_zero]) (JM (oG v3 v5 h1) (by rw [h2])))<|AN);exact (ih v3 (inc v5)).mono fun y hy=>by cases y<;>exact JH r hy
   ·refine JK (fun y hy => ?_)
    replace hy:=yO (q0:=q0) v0 v3 v4 v5 9223372036854775808 true (0:Int) y hy
    cases y with
    | x4 w0_6 =>
     have h3:=hy
     cases w0_6 with
     | true =>
      refine JL (fun h4 => ?_)
      have r:kL (ep q0 v0 v3 v4 v5) .normal (ep q0 v0 (v3++([v5])) v4 (inc (v0.length:Int))):=RP [.val (.int .i64 (v0.length:Int)),.b true,rF,.lp (.exit 4) (gw q0 v0 v3 v4 v5 true),.rows ((v3++([v5])).map etI),.val (.int .i64 (v0.length:Int))] (ALn v0 (GTask.t q0)<|AC h0<|AV (ψ:=fun k=>E.C k 72 [.one (.s .far () 1 (((v3.map etI).drop 0).take (v3.map etI).length)),.one (tI v5)]=some [(false,[tB false])]) (JN (by simp only [List.take_length,List.drop_zero]) (JM (oG v3 v5 h1) (by rw [h2])))<|AL h3<|AAp etI (fun _=>rfl) h4<|ALn v0 (GTask.t q0)<|AN);exact (ih (v3++([v5])) (inc (v0.length:Int))).mono fun y hy=>by cases y<;>exact JH r hy
     | false =>
      have r:kL (ep q0 v0 v3 v4 v5) .normal (ep q0 v0 v3 v4 (inc v5)):=RP [.val (.int .i64 (v0.length:Int)),.b true,rF,.lp (.exit 4) (gw q0 v0 v3 v4 v5 false)] (ALn v0 (GTask.t q0)<|AC h0<|AV (ψ:=fun k=>E.C k 72 [.one (.s .far () 1 (((v3.map etI).drop 0).take (v3.map etI).length)),.one (tI v5)]=some [(false,[tB false])]) (JN (by simp only [List.take_length,List.drop_zero]) (JM (oG v3 v5 h1) (by rw [h2])))<|AL h3<|AN);exact (ih v3 (inc v5)).mono fun y hy=>by cases y<;>exact JH r hy
  ·exact JG (JI (show kL (ep q0 v0 v3 v4 v5) (.exit 2) (lY q0 v0 v4 v3) from RP [.val (.int .i64 (v0.length:Int)),.b false] (ALn v0 (GTask.t q0)<|AC h0<|AN)) (by intro h;cases h))
inductive rL where
 | x0 (v3:List Int)
def kN (q0:Kd) (v0:List GTask) (v3:List Int) (v4:Int):US:=stL 57 [(0,.one (.s .far () 5 (v0.map (GTask.t q0)))),(3,.one (.s .own () 1 (v3.map etI))),(4,.one (tI v4))]
def lX (q0:Kd) (zv3:List Int):US:=stL 57 [(3,.one (.s .own () 1 (zv3.map etI)))]
abbrev rK:US→Exit→US→Prop:=Round E 48 (av Tryz.f48 0)
def yP {q0:Kd} (v0:List GTask) (v3:List Int) (v4:Int):rL→Prop
 | .x0 zv3=>Loops E 48 (av Tryz.f48 0) (kN q0 v0 v3 v4) (.exit 0) (lX q0 zv3)
noncomputable def ff (v0:List GTask):List GTask→Nat→(List Int)→Option rL
 | [],i,v3=>some (.x0 v3)
 | hd::rest,i,v3=>(c6 v0 9223372036854775808 v3 (0:Int)).bind fun y=>match y with
  | .x2 w0_3=>(ff v0 rest (i+1) w0_3)
theorem yM {q0:Kd} (v0:List GTask) (rest:List GTask):∀ (i:Nat) (v3:List Int),(v0).drop i=rest→v0.length≤9223372036854775807→Ans (ff v0 rest i v3) (yP (q0:=q0) v0 v3 (i:Int)):=by
 induction rest with
 | nil =>
  intro i v3 hE hl
  have hb:=bG hE
  unfold ff
  exact JG (JI (show rK (kN q0 v0 v3 (i:Int)) (.exit 0) (lX q0 v3) from RP [.val (.int .i64 (v0.length:Int)),.b false] (ALn v0 (GTask.t q0)<|AC hb<|AN)) (by intro h;cases h))
 | cons hd rest ih =>
  intro i v3 hE hl
  have hb:=bm hE
  have hw:=bn hE hl
  have hE2:=aK hE
  have hg:=bo hE
  unfold ff
  refine JK (fun y hy => ?_)
  replace hy:=yN (q0:=q0) v0 (i:Int) 9223372036854775808 v3 (0:Int) y hy
  cases y with
  | x2 w0_3 =>
   have h1:=hy
   exact (ih (i+1) w0_3 hE2 hl).mono fun y hy=>by have r:rK (kN q0 v0 v3 (i:Int)) .normal (kN q0 v0 w0_3 (inc (i:Int))):=RP [.val (.int .i64 (v0.length:Int)),.b true,.lp (.exit 2) (lY q0 v0 (i:Int) w0_3)] (ALn v0 (GTask.t q0)<|AC hb<|AL h1<|AN);rw [hw] at r;cases y<;>exact JH r hy
noncomputable def lZ (x0:List GTask):Option ((List Int)) :=
  if x0.length≤9223372036854775807 then (ff x0 x0 0 ([])).bind fun y=>match y with
   | .x0 w0_3=>(some (w0_3)) else none
theorem Bc {q0:Kd} (x0:List GTask):Ans (lZ x0) (fun r=>Does E 48 [.one (.s .far () 5 (x0.map (GTask.t q0)))] [(false,[.s .own () 1 (r.map etI)])]):=by
 unfold lZ
 refine JL (fun hl1 => ?_)
 refine JK (fun y hy => ?_)
 replace hy:=yM (q0:=q0) x0 x0 0 ([]) rfl hl1 y hy
 cases y with
 | x0 w0_3 =>
  have h0:=hy
  exact JG (DP Tryz.f48 [.lp (.exit 0) (lX q0 w0_3)] (AL h0<|AN))
theorem A4 (ts:List GTask) (o:List Int) (i:Nat) (t:GTask) (ht:ts.length≤1050000) (ho:o.length≤1050000) (hi:ts[i]?=some t) (hf:t.f4.length≤1050000):∀ (m k n:Nat) (b:Bool),k+m=t.f4.length→m<n →
  es ts o (i:Int) n b (k:Int)=some (.x4 (b&&((t.f4.drop k).all fun x=>cl o (aq ts x))))
 | m,k,0,b,_,hn=>by omega
 | m,k,n+1,b,hk,hn=>by
  have hg:aN ts (i:Int)=some t:=by rw [fN];exact hi
  unfold es
  cases m with
  | zero =>
   have hd:t.f4.drop k=[]:=List.drop_eq_nil_of_le (by omega)
   rw [hd]
   cases b<;>(simp only [hg,Option.bind_some];rw [decide_eq_false (by omega)];rfl)
  | succ m =>
   have hx:∃ x,t.f4[k]?=some x:=⟨t.f4[k]'(by omega),List.getElem?_eq_getElem (by omega)⟩
   obtain ⟨x,hx⟩:=hx
   have hd:t.f4.drop k=x::t.f4.drop (k+1):=by
    rw [List.drop_eq_getElem_cons (by omega:k<t.f4.length)]
    rw [List.getElem?_eq_getElem (by omega)] at hx
    rw [Option.some.inj hx]
   have e:inc (k:Int)=((k+1:Nat):Int):=by rw [fg _ (by omega) (by omega)];omega
   rw [hd,List.all_cons]
   cases b with
   | false =>
    simp only [hg,Option.bind_some]
    rw [decide_eq_true (by omega),cond_true,e,A4 ts o i t ht ho hi hf m (k+1) n false (by omega) (by omega)];rfl
   | true =>
    have hy:aN t.f4 (k:Int)=some x:=by rw [fN];exact hx
    simp only [hg,Option.bind_some]
    rw [decide_eq_true (by omega),cond_true,hy,Option.bind_some,if_pos ht,if_pos ho,e,A4 ts o i t ht ho hi hf m (k+1) n _ (by omega) (by omega)];rfl
theorem CS (ts:List GTask) (hs:ak.sm ts) (hg:fo ts) (o:List Int) (ho:o.length≤1000):∀ (m i n:Nat),i+m=ts.length→m+1<n →
  c6 ts n o (i:Int)=some (.x2 (match ex o ts (ts.drop i) i with | some k=>o++[(k:Int)] | none=>o))
 | m,i,0,_,hn=>by omega
 | m,i,n+1,hi,hn=>by
  have h4:=hg.1
  unfold c6
  cases m with
  | zero =>
   have hd:ts.drop i=[]:=List.drop_eq_nil_of_le (by omega)
   rw [hd,decide_eq_false (by omega)];rfl
  | succ m =>
   have hlt:i<ts.length:=by omega
   have ht:ts[i]?=some ts[i]:=List.getElem?_eq_getElem hlt
   have hd:ts.drop i=ts[i]::ts.drop (i+1):=List.drop_eq_getElem_cons hlt
   have hf:ts[i].f4.length≤1050000:=(hs.2 ts[i] (List.getElem_mem _)).2.2.1
   have e:inc (i:Int)=((i+1:Nat):Int):=by rw [fg _ (by omega) (by omega)];omega
   have hn':=hg.2 i _ ht
   have fr:=A4 ts o i ts[i] hs.1 (by omega) ht hf ts[i].f4.length 0 9223372036854775808 true (by omega) (by omega)
   have ih:=CS ts hs hg o ho m (i+1) n (by omega) (by omega)
   rw [List.drop_zero,Bool.true_and] at fr
   have fr':es ts o (i:Int) 9223372036854775808 true (0:Int)=some (.x4 (oK ts o ts[i])):=fr
   rw [decide_eq_true (by omega),cond_true,if_pos (by omega),hd,fr',e]
   unfold ex
   rw [hn']
   cases cl o (i:Int) with
   | true=>rw [cond_true,ih];rfl
   | false =>
    rw [cond_false,Option.bind_some]
    cases oK ts o ts[i] with
    | false =>
     simp only [ih];rfl
    | true =>
     have stop:∀ w,c6 ts n w (inc (ts.length:Int))=some (.x2 w):=fun w=>by
      obtain ⟨n,rfl⟩:∃ j,n=j+1:=⟨n-1,by omega⟩
      unfold c6
      rw [fg _ (by omega) (by omega),decide_eq_false (by omega)];rfl
     simp only [stop]
     rw [if_pos (by simp;omega)];rfl
theorem uX (ts:List GTask) (hs:ak.sm ts) (hg:fo ts):∀ (l:List GTask) (i:Nat) (o:List Int),o.length+l.length≤1000→ff ts l i o=some (.x0 (kp ts l.length o))
 | [],i,o,_=>rfl
 | x::l,i,o,hl=>by
  have h4:=hg.1
  simp only [List.length_cons] at hl
  unfold ff
  have r:=CS ts hs hg o (by omega) ts.length 0 9223372036854775808 (by omega) (by omega)
  rw [List.drop_zero] at r
  refine (congrArg (Option.bind · _) r).trans ?_
  rw [Option.bind_some]
  simp only [List.length_cons]
  unfold kp
  cases q:ex o ts ts 0 with
  | none =>
   simp only
   rw [uX ts hs hg l (i+1) o (by omega)]
   have:∀ k,kp ts k o=o:=fun k=>by
    cases k with
    | zero=>rfl
    | succ k=>unfold kp;rw [q]
   rw [this]
  | some k =>
   simp only
   exact uX ts hs hg l (i+1) _ (by simp;omega)
theorem Hf (ts:List GTask) (hs:ak.sm ts) (hg:fo ts):lZ ts=some (lM ts):=by
 have h4:=hg.1
 unfold lZ
 rw [if_pos (by omega),uX ts hs hg ts 0 [] (by simp;omega)]
 rfl
theorem zg {q0:Kd} (x0:List GTask) (h:ak.sm x0) (hg:fo x0):Does E 48 [.one (.s .far () 5 (x0.map (GTask.t q0)))] [(false,[.s .own () 1 ((lM x0).map etI)])]:=by
 exact Bc x0 _ (Hf x0 h hg)
end Go.Proofs.YtgaiiephdjllkaaGreatDoor.Am
namespace Go.Proofs.YtgaiiephdjllkaaGreatDoor.Am
open Go Go.Proofs Classical
set_option maxRecDepth 100000
set_option linter.unusedVariables false
set_option linter.unusedSimpArgs false
inductive ue where
 | ret (v2:Bool)
 | x0 
def eA (v1_0 v1_1:ByteArray) (v1_2:Int) (v1_3:Bool) (v1_4 v28:List ByteArray) (v29 v30:Int):US:=stL 54 [(1,.box () [tS v1_0,tS v1_1,tI v1_2,tB v1_3,.s .far () 1 (v1_4.map etS)]),(28,.one (.s .far () 1 (v28.map etS))),(29,.one (tI v29)),(30,.one (tI v30))]
def jG (zv2:Bool):US:=stL 54 [(2,.one (tB zv2))]
def m6  : US:=stL 54 []
abbrev ko:US→Exit→US→Prop:=Round E 53 (av Tryz.f53 0)
def B6 (v1_0 v1_1:ByteArray) (v1_2:Int) (v1_3:Bool) (v1_4 v28:List ByteArray) (v29 v30:Int):ue→Prop
 | .ret zv2=>Loops E 53 (av Tryz.f53 0) (eA v1_0 v1_1 v1_2 v1_3 v1_4 v28 v29 v30) .ret (jG zv2)
 | .x0=>Loops E 53 (av Tryz.f53 0) (eA v1_0 v1_1 v1_2 v1_3 v1_4 v28 v29 v30) (.exit 0) (m6)
noncomputable def fu (v1_0:ByteArray) (v1_4:List ByteArray):List ByteArray→Nat→Bool→Option ue
 | [],i,v1_3=>some (.x0)
 | hd::rest,i,v1_3=>cond (hd.toList==v1_0.toList)
  (some (.ret false))
  (cond (decide ((i:Int)>(0:Int)))
   ((aN v1_4 (IntKind.wrap .i64 ((i:Int)-(1:Int)))).bind fun g1=>cond (Op.bytesLess hd.toList g1.toList || hd.toList==g1.toList)
    (some (.ret false))
    (fu v1_0 v1_4 rest (i+1) v1_3))
   (fu v1_0 v1_4 rest (i+1) v1_3))
theorem B5 (v1_0 v1_1:ByteArray) (v1_2:Int) (v1_4 v28:List ByteArray) (rest:List ByteArray):∀ (i:Nat) (v1_3:Bool),(v28).drop i=rest→v28.length≤9223372036854775807→Ans (fu v1_0 v1_4 rest i v1_3) (B6 v1_0 v1_1 v1_2 v1_3 v1_4 v28 (v28.length:Int) (i:Int)):=by
 induction rest with
 | nil =>
  intro i v1_3 hE hl
  have hb:=bG hE
  unfold fu
  exact JG (JI (show ko (eA v1_0 v1_1 v1_2 v1_3 v1_4 v28 (v28.length:Int) (i:Int)) (.exit 0) (m6) from RP [.b false] (AC hb<|AN)) (by intro h;cases h))
 | cons hd rest ih =>
  intro i v1_3 hE hl
  have hb:=bm hE
  have hw:=bn hE hl
  have hE2:=aK hE
  have hg:=bo hE
  unfold fu
  apply JJ<;>intro h2
  ·exact JG (JI (show ko (eA v1_0 v1_1 v1_2 v1_3 v1_4 v28 (v28.length:Int) (i:Int)) .ret (jG false) from RP [.b true,.row (etS hd),.b true] (AC hb<|AR etS hg<|AC h2<|AN)) (by intro h;cases h))
  ·apply JJ<;>intro h3
   ·refine JK (fun g1 h4 => ?_)
    apply JJ<;>intro h5
    ·exact JG (JI (show ko (eA v1_0 v1_1 v1_2 v1_3 v1_4 v28 (v28.length:Int) (i:Int)) .ret (jG false) from RP [.b true,.row (etS hd),.b false,.b true,.row (etS g1),.b true] (AC hb<|AR etS hg<|AC h2<|AC h3<|AR etS h4<|AC h5<|AN)) (by intro h;cases h))
    ·exact (ih (i+1) v1_3 hE2 hl).mono fun y hy=>by have r:ko (eA v1_0 v1_1 v1_2 v1_3 v1_4 v28 (v28.length:Int) (i:Int)) .normal (eA v1_0 v1_1 v1_2 v1_3 v1_4 v28 (v28.length:Int) (inc (i:Int))):=RP [.b true,.row (etS hd),.b false,.b true,.row (etS g1),.b false] (AC hb<|AR etS hg<|AC h2<|AC h3<|AR etS h4<|AC h5<|AN);rw [hw] at r;cases y<;>exact JH r hy
   ·exact (ih (i+1) v1_3 hE2 hl).mono fun y hy=>by have r:ko (eA v1_0 v1_1 v1_2 v1_3 v1_4 v28 (v28.length:Int) (i:Int)) .normal (eA v1_0 v1_1 v1_2 v1_3 v1_4 v28 (v28.length:Int) (inc (i:Int))):=RP [.b true,.row (etS hd),.b false,.b false] (AC hb<|AR etS hg<|AC h2<|AC h3<|AN);rw [hw] at r;cases y<;>exact JH r hy
noncomputable def nw (x0:GTask):Option (Bool) :=
  if x0.f0.size≤2000000 then cond (dz x0.f0)
   (cond ((bJ x0.f1)==(0:Int))
    (some (false))
    (cond (aG x0.f2 (0:Int) (3:Int))
     (cond (decide ((x0.f4.length:Int)>(4:Int)))
      (some (false))
      (if x0.f4.length≤9223372036854775807 then (fu x0.f0 x0.f4 x0.f4 0 x0.f3).bind fun y=>match y with
       | .ret w0_2=>(some (w0_2))
       | .x0=>(some (true)) else none))
     (some (false))))
   (some (false)) else none
theorem DM (x0:GTask):Ans (nw x0) (fun r=>Does E 53 [.agg (GTask.t .far x0)] [(false,[tB r])]):=by
 unfold nw
 refine JL (fun h0 => ?_)
 apply JJ<;>intro h1
 ·apply JJ<;>intro h2
  ·exact JG (DP Tryz.f53 [rT,.ret [(false,[tI (bJ x0.f1)])],.b true] (AD (JO (cL x0.f0 h0) h1)<|AD (jc x0.f1)<|AC h2<|AN))
  ·apply JJ<;>intro h3
   ·apply JJ<;>intro h4
    ·exact JG (DP Tryz.f53 [rT,.ret [(false,[tI (bJ x0.f1)])],.b false,rT,.val (.int .i64 (x0.f4.length:Int)),.b true] (AD (JO (cL x0.f0 h0) h1)<|AD (jc x0.f1)<|AC h2<|AD (JO (cW x0.f2 (0:Int) (3:Int)) h3)<|ALn x0.f4 etS<|AC h4<|AN))
    ·refine JL (fun hl5 => ?_)
     refine JK (fun y hy => ?_)
     replace hy:=B5 x0.f0 x0.f1 x0.f2 x0.f4 x0.f4 x0.f4 0 x0.f3 rfl hl5 y hy
     cases y with
     | ret w0_2 =>
      have h5:=hy
      exact JG (DP Tryz.f53 [rT,.ret [(false,[tI (bJ x0.f1)])],.b false,rT,.val (.int .i64 (x0.f4.length:Int)),.b false,.val (.int .i64 (x0.f4.length:Int)),.lp .ret (jG w0_2)] (AD (JO (cL x0.f0 h0) h1)<|AD (jc x0.f1)<|AC h2<|AD (JO (cW x0.f2 (0:Int) (3:Int)) h3)<|ALn x0.f4 etS<|AC h4<|ALn x0.f4 etS<|AL h5<|AN))
     | x0 =>
      have h5:=hy
      exact JG (DP Tryz.f53 [rT,.ret [(false,[tI (bJ x0.f1)])],.b false,rT,.val (.int .i64 (x0.f4.length:Int)),.b false,.val (.int .i64 (x0.f4.length:Int)),.lp (.exit 0) (m6)] (AD (JO (cL x0.f0 h0) h1)<|AD (jc x0.f1)<|AC h2<|AD (JO (cW x0.f2 (0:Int) (3:Int)) h3)<|ALn x0.f4 etS<|AC h4<|ALn x0.f4 etS<|AL h5<|AN))
   ·exact JG (DP Tryz.f53 [rT,.ret [(false,[tI (bJ x0.f1)])],.b false,rF] (AD (JO (cL x0.f0 h0) h1)<|AD (jc x0.f1)<|AC h2<|AD (JO (cW x0.f2 (0:Int) (3:Int)) h3)<|AN))
 ·exact JG (DP Tryz.f53 [rF] (AD (JO (cL x0.f0 h0) h1)<|AN))
inductive tt where
 | ret (v4:Bool)
 | x0 
def br (q0:Kd) (v0:List GTask) (v5_0 v5_1:ByteArray) (v5_2:Int) (v5_3:Bool) (v5_4:List ByteArray) (v6:Int):US:=stL 78 [(0,.one (.s .far () 5 (v0.map (GTask.t q0)))),(5,.box () [tS v5_0,tS v5_1,tI v5_2,tB v5_3,.s .far () 1 (v5_4.map etS)]),(6,.one (tI v6))]
def dr (q0:Kd) (zv4:Bool):US:=stL 78 [(4,.one (tB zv4))]
def jS (q0:Kd)  : US:=stL 78 []
abbrev cC:US→Exit→US→Prop:=Round E 47 (av Tryz.f47 0)
def Be {q0:Kd} (v0:List GTask) (v5_0 v5_1:ByteArray) (v5_2:Int) (v5_3:Bool) (v5_4:List ByteArray) (v6:Int):tt→Prop
 | .ret zv4=>Loops E 47 (av Tryz.f47 0) (br q0 v0 v5_0 v5_1 v5_2 v5_3 v5_4 v6) .ret (dr q0 zv4)
 | .x0=>Loops E 47 (av Tryz.f47 0) (br q0 v0 v5_0 v5_1 v5_2 v5_3 v5_4 v6) (.exit 0) (jS q0)
theorem xh {q0:Kd} (v0:List GTask) (v5_0 v5_1:ByteArray) (v5_2:Int) (v5_3:Bool) (v5_4:List ByteArray) (v6:Int) (g0:ByteArray) (h0:(decide (v6<(v5_4.length:Int)))=true) (h1:aN v5_4 v6=some g0) (h2:v0.length≤1050000) (h3:(decide ((aq v0 g0)<(0:Int)))=true):cC (br q0 v0 v5_0 v5_1 v5_2 v5_3 v5_4 v6) .ret (dr q0 false) :=
 RP [.val (.int .i64 (v5_4.length:Int)),.b true,.row (etS g0),.ret [(false,[tI (aq v0 g0)])],.b true] (ALn v5_4 etS<|AC h0<|AR etS h1<|AV (ψ:=fun k=>E.C k 70 [.one (.s .far () 5 (v0.map (GTask.t q0))),.one (tS g0)]=some [(false,[tI (aq v0 g0)])]) (eG v0 g0 h2)<|AC h3<|AN)
theorem xi {q0:Kd} (v0:List GTask) (v5_0 v5_1:ByteArray) (v5_2:Int) (v5_3:Bool) (v5_4:List ByteArray) (v6:Int) (g0:ByteArray) (h0:(decide (v6<(v5_4.length:Int)))=true) (h1:aN v5_4 v6=some g0) (h2:v0.length≤1050000) (h3:(decide ((aq v0 g0)<(0:Int)))=false) (h4:(g0.toList==v5_0.toList)=true):cC (br q0 v0 v5_0 v5_1 v5_2 v5_3 v5_4 v6) .ret (dr q0 false) :=
 RP [.val (.int .i64 (v5_4.length:Int)),.b true,.row (etS g0),.ret [(false,[tI (aq v0 g0)])],.b false,.row (etS g0),.b true] (ALn v5_4 etS<|AC h0<|AR etS h1<|AV (ψ:=fun k=>E.C k 70 [.one (.s .far () 5 (v0.map (GTask.t q0))),.one (tS g0)]=some [(false,[tI (aq v0 g0)])]) (eG v0 g0 h2)<|AC h3<|AR etS h1<|AC h4<|AN)
theorem xj {q0:Kd} (v0:List GTask) (v5_0 v5_1:ByteArray) (v5_2:Int) (v5_3:Bool) (v5_4:List ByteArray) (v6:Int) (g0 g1:ByteArray) (h0:(decide (v6<(v5_4.length:Int)))=true) (h1:aN v5_4 v6=some g0) (h2:v0.length≤1050000) (h3:(decide ((aq v0 g0)<(0:Int)))=false) (h4:(g0.toList==v5_0.toList)=false) (h5:(decide (v6>(0:Int)))=true) (h6:aN v5_4 (IntKind.wrap .i64 (v6-(1:Int)))=some g1) (h7:(!Op.bytesLess g1.toList g0.toList)=true):cC (br q0 v0 v5_0 v5_1 v5_2 v5_3 v5_4 v6) .ret (dr q0 false) :=
 RP [.val (.int .i64 (v5_4.length:Int)),.b true,.row (etS g0),.ret [(false,[tI (aq v0 g0)])],.b false,.row (etS g0),.b false,.b true,.row (etS g1),.row (etS g0),.b true] (ALn v5_4 etS<|AC h0<|AR etS h1<|AV (ψ:=fun k=>E.C k 70 [.one (.s .far () 5 (v0.map (GTask.t q0))),.one (tS g0)]=some [(false,[tI (aq v0 g0)])]) (eG v0 g0 h2)<|AC h3<|AR etS h1<|AC h4<|AC h5<|AR etS h6<|AR etS h1<|AC h7<|AN)
theorem xk {q0:Kd} (v0:List GTask) (v5_0 v5_1:ByteArray) (v5_2:Int) (v5_3:Bool) (v5_4:List ByteArray) (v6:Int) (g0 g1:ByteArray) (h0:(decide (v6<(v5_4.length:Int)))=true) (h1:aN v5_4 v6=some g0) (h2:v0.length≤1050000) (h3:(decide ((aq v0 g0)<(0:Int)))=false) (h4:(g0.toList==v5_0.toList)=false) (h5:(decide (v6>(0:Int)))=true) (h6:aN v5_4 (IntKind.wrap .i64 (v6-(1:Int)))=some g1) (h7:(!Op.bytesLess g1.toList g0.toList)=false):cC (br q0 v0 v5_0 v5_1 v5_2 v5_3 v5_4 v6) .normal (br q0 v0 v5_0 v5_1 v5_2 v5_3 v5_4 (inc v6)) :=
 RP [.val (.int .i64 (v5_4.length:Int)),.b true,.row (etS g0),.ret [(false,[tI (aq v0 g0)])],.b false,.row (etS g0),.b false,.b true,.row (etS g1),.row (etS g0),.b false] (ALn v5_4 etS<|AC h0<|AR etS h1<|AV (ψ:=fun k=>E.C k 70 [.one (.s .far () 5 (v0.map (GTask.t q0))),.one (tS g0)]=some [(false,[tI (aq v0 g0)])]) (eG v0 g0 h2)<|AC h3<|AR etS h1<|AC h4<|AC h5<|AR etS h6<|AR etS h1<|AC h7<|AN)
theorem xl {q0:Kd} (v0:List GTask) (v5_0 v5_1:ByteArray) (v5_2:Int) (v5_3:Bool) (v5_4:List ByteArray) (v6:Int) (g0:ByteArray) (h0:(decide (v6<(v5_4.length:Int)))=true) (h1:aN v5_4 v6=some g0) (h2:v0.length≤1050000) (h3:(decide ((aq v0 g0)<(0:Int)))=false) (h4:(g0.toList==v5_0.toList)=false) (h5:(decide (v6>(0:Int)))=false):cC (br q0 v0 v5_0 v5_1 v5_2 v5_3 v5_4 v6) .normal (br q0 v0 v5_0 v5_1 v5_2 v5_3 v5_4 (inc v6)) :=
 RP [.val (.int .i64 (v5_4.length:Int)),.b true,.row (etS g0),.ret [(false,[tI (aq v0 g0)])],.b false,.row (etS g0),.b false,.b false] (ALn v5_4 etS<|AC h0<|AR etS h1<|AV (ψ:=fun k=>E.C k 70 [.one (.s .far () 5 (v0.map (GTask.t q0))),.one (tS g0)]=some [(false,[tI (aq v0 g0)])]) (eG v0 g0 h2)<|AC h3<|AR etS h1<|AC h4<|AC h5<|AN)
theorem xm {q0:Kd} (v0:List GTask) (v5_0 v5_1:ByteArray) (v5_2:Int) (v5_3:Bool) (v5_4:List ByteArray) (v6:Int) (h0:(decide (v6<(v5_4.length:Int)))=false):cC (br q0 v0 v5_0 v5_1 v5_2 v5_3 v5_4 v6) (.exit 0) (jS q0) :=
 RP [.val (.int .i64 (v5_4.length:Int)),.b false] (ALn v5_4 etS<|AC h0<|AN)
noncomputable def eP (v0:List GTask) (v5_0:ByteArray) (v5_4:List ByteArray):List ByteArray→Nat→Bool→Option tt
 | [],i,v5_3=>some (.x0)
 | hd::rest,i,v5_3=>if v0.length≤1050000 then cond (decide ((aq v0 hd)<(0:Int)))
  (some (.ret false))
  (cond (hd.toList==v5_0.toList)
   (some (.ret false))
   (cond (decide ((i:Int)>(0:Int)))
    ((aN v5_4 (IntKind.wrap .i64 ((i:Int)-(1:Int)))).bind fun g1=>cond (!Op.bytesLess g1.toList hd.toList)
     (some (.ret false))
     (eP v0 v5_0 v5_4 rest (i+1) v5_3))
    (eP v0 v5_0 v5_4 rest (i+1) v5_3))) else none
theorem Bd {q0:Kd} (v0:List GTask) (v5_0 v5_1:ByteArray) (v5_2:Int) (v5_4:List ByteArray) (rest:List ByteArray):∀ (i:Nat) (v5_3:Bool),(v5_4).drop i=rest→v5_4.length≤9223372036854775807→Ans (eP v0 v5_0 v5_4 rest i v5_3) (Be (q0:=q0) v0 v5_0 v5_1 v5_2 v5_3 v5_4 (i:Int)):=by
 induction rest with
 | nil =>
  intro i v5_3 hE hl
  have hb:=bG hE
  unfold eP
  exact JG (JI (show cC (br q0 v0 v5_0 v5_1 v5_2 v5_3 v5_4 (i:Int)) (.exit 0) (jS q0) from xm (q0:=q0) v0 v5_0 v5_1 v5_2 v5_3 v5_4 (i:Int) hb) (by intro h;cases h))
 | cons hd rest ih =>
  intro i v5_3 hE hl
  have hb:=bm hE
  have hw:=bn hE hl
  have hE2:=aK hE
  have hg:=bo hE
  unfold eP
  refine JL (fun h2 => ?_)
  apply JJ<;>intro h3
  ·exact JG (JI (show cC (br q0 v0 v5_0 v5_1 v5_2 v5_3 v5_4 (i:Int)) .ret (dr q0 false) from xh (q0:=q0) v0 v5_0 v5_1 v5_2 v5_3 v5_4 (i:Int) hd hb hg h2 h3) (by intro h;cases h))
  ·apply JJ<;>intro h4
   ·exact JG (JI (show cC (br q0 v0 v5_0 v5_1 v5_2 v5_3 v5_4 (i:Int)) .ret (dr q0 false) from xi (q0:=q0) v0 v5_0 v5_1 v5_2 v5_3 v5_4 (i:Int) hd hb hg h2 h3 h4) (by intro h;cases h))
   ·apply JJ<;>intro h5
    ·refine JK (fun g1 h6 => ?_)
     apply JJ<;>intro h7
     ·exact JG (JI (show cC (br q0 v0 v5_0 v5_1 v5_2 v5_3 v5_4 (i:Int)) .ret (dr q0 false) from xj (q0:=q0) v0 v5_0 v5_1 v5_2 v5_3 v5_4 (i:Int) hd g1 hb hg h2 h3 h4 h5 h6 h7) (by intro h;cases h))
     ·exact (ih (i+1) v5_3 hE2 hl).mono fun y hy=>by have r:cC (br q0 v0 v5_0 v5_1 v5_2 v5_3 v5_4 (i:Int)) .normal (br q0 v0 v5_0 v5_1 v5_2 v5_3 v5_4 (inc (i:Int))):=xk (q0:=q0) v0 v5_0 v5_1 v5_2 v5_3 v5_4 (i:Int) hd g1 hb hg h2 h3 h4 h5 h6 h7;rw [hw] at r;cases y<;>exact JH r hy
    ·exact (ih (i+1) v5_3 hE2 hl).mono fun y hy=>by have r:cC (br q0 v0 v5_0 v5_1 v5_2 v5_3 v5_4 (i:Int)) .normal (br q0 v0 v5_0 v5_1 v5_2 v5_3 v5_4 (inc (i:Int))):=xl (q0:=q0) v0 v5_0 v5_1 v5_2 v5_3 v5_4 (i:Int) hd hb hg h2 h3 h4 h5;rw [hw] at r;cases y<;>exact JH r hy
noncomputable def mG (x0:List GTask) (x1:Int):Option (Bool) :=
  (aN x0 x1).bind fun g0=>if g0.f0.size≤2000000 then cond (dz g0.f0)
   (if x0.length≤1050000 then cond ((aq x0 g0.f0) != x1)
    (some (false))
    (cond ((bJ g0.f1)==(0:Int))
     (some (false))
     (cond (aG g0.f2 (0:Int) (3:Int))
      (if g0.f4.length≤9223372036854775807 then (eP x0 g0.f0 g0.f4 g0.f4 0 g0.f3).bind fun y=>match y with
       | .ret w0_4=>(some (w0_4))
       | .x0=>(some (true)) else none)
      (some (false)))) else none)
   (some (false)) else none
theorem Cr {q0:Kd} (x0:List GTask) (x1:Int):Ans (mG x0 x1) (fun r=>Does E 47 [.one (.s .far () 5 (x0.map (GTask.t q0))),.one (tI x1)] [(false,[tB r])]):=by
 unfold mG
 refine JK (fun g0 h0 => ?_)
 refine JL (fun h1 => ?_)
 apply JJ<;>intro h2
 ·refine JL (fun h3 => ?_)
  apply JJ<;>intro h4
  ·exact JG (DP Tryz.f47 [.row ((GTask.t q0) g0),rT,.ret [(false,[tI (aq x0 g0.f0)])],.b true] (AR (GTask.t q0) h0<|AD (JO (ct g0.f0 h1) h2)<|AV (ψ:=fun k=>E.C k 70 [.one (.s .far () 5 (x0.map (GTask.t q0))),.one (tS g0.f0)]=some [(false,[tI (aq x0 g0.f0)])]) (eG x0 g0.f0 h3)<|AC h4<|AN))
  ·apply JJ<;>intro h5
   ·exact JG (DP Tryz.f47 [.row ((GTask.t q0) g0),rT,.ret [(false,[tI (aq x0 g0.f0)])],.b false,.ret [(false,[tI (bJ g0.f1)])],.b true] (AR (GTask.t q0) h0<|AD (JO (ct g0.f0 h1) h2)<|AV (ψ:=fun k=>E.C k 70 [.one (.s .far () 5 (x0.map (GTask.t q0))),.one (tS g0.f0)]=some [(false,[tI (aq x0 g0.f0)])]) (eG x0 g0.f0 h3)<|AC h4<|AD (lk g0.f1)<|AC h5<|AN))
   ·apply JJ<;>intro h6
    ·refine JL (fun hl5 => ?_)
     refine JK (fun y hy => ?_)
     replace hy:=Bd (q0:=q0) x0 g0.f0 g0.f1 g0.f2 g0.f4 g0.f4 0 g0.f3 rfl hl5 y hy
     cases y with
     | ret w0_4 =>
      have h7:=hy
      exact JG (DP Tryz.f47 [.row ((GTask.t q0) g0),rT,.ret [(false,[tI (aq x0 g0.f0)])],.b false,.ret [(false,[tI (bJ g0.f1)])],.b false,rT,.lp .ret (dr q0 w0_4)] (AR (GTask.t q0) h0<|AD (JO (ct g0.f0 h1) h2)<|AV (ψ:=fun k=>E.C k 70 [.one (.s .far () 5 (x0.map (GTask.t q0))),.one (tS g0.f0)]=some [(false,[tI (aq x0 g0.f0)])]) (eG x0 g0.f0 h3)<|AC h4<|AD (lk g0.f1)<|AC h5<|AD (JO (bu g0.f2 (0:Int) (3:Int)) h6)<|AL h7<|AN))
     | x0 =>
      have h7:=hy
      exact JG (DP Tryz.f47 [.row ((GTask.t q0) g0),rT,.ret [(false,[tI (aq x0 g0.f0)])],.b false,.ret [(false,[tI (bJ g0.f1)])],.b false,rT,.lp (.exit 0) (jS q0)] (AR (GTask.t q0) h0<|AD (JO (ct g0.f0 h1) h2)<|AV (ψ:=fun k=>E.C k 70 [.one (.s .far () 5 (x0.map (GTask.t q0))),.one (tS g0.f0)]=some [(false,[tI (aq x0 g0.f0)])]) (eG x0 g0.f0 h3)<|AC h4<|AD (lk g0.f1)<|AC h5<|AD (JO (bu g0.f2 (0:Int) (3:Int)) h6)<|AL h7<|AN))
    ·exact JG (DP Tryz.f47 [.row ((GTask.t q0) g0),rT,.ret [(false,[tI (aq x0 g0.f0)])],.b false,.ret [(false,[tI (bJ g0.f1)])],.b false,rF] (AR (GTask.t q0) h0<|AD (JO (ct g0.f0 h1) h2)<|AV (ψ:=fun k=>E.C k 70 [.one (.s .far () 5 (x0.map (GTask.t q0))),.one (tS g0.f0)]=some [(false,[tI (aq x0 g0.f0)])]) (eG x0 g0.f0 h3)<|AC h4<|AD (lk g0.f1)<|AC h5<|AD (JO (bu g0.f2 (0:Int) (3:Int)) h6)<|AN))
 ·exact JG (DP Tryz.f47 [.row ((GTask.t q0) g0),rF] (AR (GTask.t q0) h0<|AD (JO (ct g0.f0 h1) h2)<|AN))
def asc (self:ByteArray):List ByteArray→Option ByteArray→Bool
 | [],_=>true
 | x::l,p => !(x.toList==self.toList)&&(match p with | some y=>Op.bytesLess y.toList x.toList | none=>true)&&asc self l (some x)
theorem Aq:∀ a b:List UInt8,(Op.bytesLess a b || a==b) = !Op.bytesLess b a
 | [],[]=>rfl
 | [],_::_=>rfl
 | _::_,[]=>rfl
 | x::a,y::b=>by
  have ih:=Aq a b
  unfold Op.bytesLess
  have e:(x::a==y::b)=(x==y&&a==b):=rfl
  rw [e]
  rcases Nat.lt_trichotomy x.toNat y.toNat with h | h | h
  ·have h1:x<y:=UInt8.lt_iff_toNat_lt.2 h
   have h2:¬ y<x:=fun q=>by have:=UInt8.lt_iff_toNat_lt.1 q;omega
   have h3:(y==x)=false:=by rw [beq_eq_false_iff_ne];intro q;subst q;omega
   simp [h1,h2,h3]
  ·have h0:x=y:=UInt8.toNat_inj.1 h
   subst h0
   have h2:¬ x<x:=fun q=>by have:=UInt8.lt_iff_toNat_lt.1 q;omega
   simp only [h2,decide_false,Bool.false_or,beq_self_eq_true,Bool.true_and]
   exact ih
  ·have h1:y<x:=UInt8.lt_iff_toNat_lt.2 h
   have h2:¬ x<y:=fun q=>by have:=UInt8.lt_iff_toNat_lt.1 q;omega
   have h3:(x==y)=false:=by rw [beq_eq_false_iff_ne];intro q;subst q;omega
   simp [h1,h2,h3]
theorem uf:∀ a:List UInt8,Op.bytesLess a a=false
 | []=>rfl
 | x::a=>by
  unfold Op.bytesLess
  have h2:¬ x<x:=fun q=>by have:=UInt8.lt_iff_toNat_lt.1 q;omega
  simp [h2,uf a]
theorem vP:∀ {a b c:List UInt8},Op.bytesLess a b=true→Op.bytesLess b c=true→Op.bytesLess a c=true
 | [],[],_,h,_=>by cases h
 | [],_::_,[],_,h=>by cases h
 | [],_::_,_::_,_,_=>rfl
 | _::_,[],_,h,_=>by cases h
 | _::_,_::_,[],_,h=>by cases h
 | x::a,y::b,z::c,h1,h2=>by
  unfold Op.bytesLess at *
  simp only [Bool.or_eq_true,decide_eq_true_eq,Bool.and_eq_true,beq_iff_eq,UInt8.lt_iff_toNat_lt] at *
  rcases h1 with h1 | ⟨rfl,h1⟩
  ·rcases h2 with h2 | ⟨rfl,h2⟩
   ·exact .inl (by omega)
   ·exact .inl h1
  ·rcases h2 with h2 | ⟨rfl,h2⟩
   ·exact .inl h2
   ·exact .inr ⟨rfl,vP h1 h2⟩
theorem xx (self:ByteArray):∀ (l:List ByteArray) (p:Option ByteArray),asc self l p=true→(l.map tx).Nodup∧∀ y,p=some y→∀ x∈l,Op.bytesLess (tx y) (tx x)=true
 | [],p,_=>⟨by simp,fun y _ x hx=>by cases hx⟩
 | z::l,p,h=>by
  unfold asc at h
  simp only [Bool.and_eq_true] at h
  obtain ⟨h1,h2⟩:=xx self l (some z) h.2
  have h3:=h2 z rfl
  refine ⟨?_,fun y e x hx => ?_⟩
  ·rw [List.map_cons,List.nodup_cons]
   refine ⟨fun q => ?_,h1⟩
   obtain ⟨w,hw,e⟩:=List.mem_map.1 q
   have:=h3 w hw
   rw [e,uf] at this
   cases this
  ·subst e
   have h4:Op.bytesLess (tx y) (tx z)=true:=by have:=h.1.2;simp only [wC] at this;exact this
   rcases List.mem_cons.1 hx with rfl | hx
   ·exact h4
   ·exact vP h4 (h3 x hx)
theorem CX {α:Type} [DecidableEq α]:∀ {l m:List α},l.Nodup→(∀ x∈l,x∈m)→l.length≤m.length
 | [],_,_,_=>Nat.zero_le _
 | x::l,m,h,hm=>by
  rw [List.nodup_cons] at h
  have hx:=hm x (by simp)
  have:=CX (l:=l) (m:=m.erase x) h.2 fun y hy=>(List.mem_erase_of_ne (fun e=>h.1 (by rw [← e];exact hy))).2 (hm y (by simp [hy]))
  rw [List.length_erase_of_mem hx] at this
  have:0<m.length:=List.length_pos_of_mem hx
  simp only [List.length_cons]
  omega
theorem GG (self:ByteArray) (aO:List ByteArray) (hl:aO.length≤1050000):∀ (rest:List ByteArray) (i:Nat) (z:Bool),aO.drop i=rest→fu self aO rest i z=some (cond (asc self rest (if i=0 then none else aO[i-1]?)) .x0 (.ret false))
 | [],i,z,_=>rfl
 | x::rest,i,z,h=>by
  have ih:=GG self aO hl rest (i+1) z (aK h)
  have hp:(if i+1=0 then none else aO[i+1-1]?)=some x:=by
   rw [if_neg (by omega)]
   show aO[i]?=some x
   rw [← List.head?_drop,h];rfl
  rw [hp] at ih
  unfold fu asc
  rw [ih]
  cases x.toList==self.toList with
  | true=>rfl
  | false =>
   rw [cond_false]
   by_cases q:i=0
   ·subst q
    rw [decide_eq_false (by omega),if_pos rfl,cond_false];rfl
   ·have hi:i-1<aO.length:=by
     rcases Nat.lt_or_ge i aO.length with g | g
     ·omega
     ·rw [List.drop_eq_nil_of_le g] at h;cases h
    have hi2:i≤aO.length:=by
     rcases Nat.lt_or_ge i aO.length with g | g
     ·omega
     ·rw [List.drop_eq_nil_of_le g] at h;cases h
    have hy:aO[i-1]?=some aO[i-1]:=List.getElem?_eq_getElem hi
    have hg:aN aO (IntKind.wrap .i64 ((i:Int)-1))=some aO[i-1]:=by
     rw [de _ (by omega) (by omega),show ((i:Int)-1)=((i-1:Nat):Int) by omega,fN,hy]
    rw [decide_eq_true (by omega),if_neg q,cond_true,hg,Option.bind_some,hy,Aq]
    simp only [Bool.not_false,Bool.true_and]
    cases Op.bytesLess aO[i-1].toList x.toList<;>rfl
theorem GH (ts:List GTask) (ht:ts.length≤1050000) (self:ByteArray) (aO:List ByteArray) (hl:aO.length≤1050000):∀ (rest:List ByteArray) (i:Nat) (z:Bool),aO.drop i=rest→eP ts self aO rest i z=some (cond (asc self rest (if i=0 then none else aO[i-1]?)&&rest.all fun n=>decide (0≤aq ts n)) .x0 (.ret false))
 | [],i,z,_=>rfl
 | x::rest,i,z,h=>by
  have ih:=GH ts ht self aO hl rest (i+1) z (aK h)
  have hp:(if i+1=0 then none else aO[i+1-1]?)=some x:=by
   rw [if_neg (by omega)]
   show aO[i]?=some x
   rw [← List.head?_drop,h];rfl
  rw [hp] at ih
  unfold eP asc
  rw [ih,if_pos ht,List.all_cons]
  by_cases w:aq ts x<0
  ·rw [decide_eq_true w,decide_eq_false (by omega:¬ 0≤aq ts x),Bool.false_and,Bool.and_false];rfl
  ·rw [decide_eq_false w,decide_eq_true (by omega:0≤aq ts x),Bool.true_and,cond_false]
   cases x.toList==self.toList with
   | true=>rfl
   | false =>
    rw [cond_false]
    by_cases q:i=0
    ·subst q
     rw [decide_eq_false (by omega),if_pos rfl,cond_false];rfl
    ·have hi:i-1<aO.length:=by
      rcases Nat.lt_or_ge i aO.length with g | g
      ·omega
      ·rw [List.drop_eq_nil_of_le g] at h;cases h
     have hi2:i≤aO.length:=by
      rcases Nat.lt_or_ge i aO.length with g | g
      ·omega
      ·rw [List.drop_eq_nil_of_le g] at h;cases h
     have hy:aO[i-1]?=some aO[i-1]:=List.getElem?_eq_getElem hi
     have hg:aN aO (IntKind.wrap .i64 ((i:Int)-1))=some aO[i-1]:=by
      rw [de _ (by omega) (by omega),show ((i:Int)-1)=((i-1:Nat):Int) by omega,fN,hy]
     rw [decide_eq_true (by omega),if_neg q,cond_true,hg,Option.bind_some,hy]
     simp only [Bool.not_false,Bool.true_and]
     cases Op.bytesLess aO[i-1].toList x.toList<;>rfl
noncomputable def oA (t:GTask):Bool:=dz t.f0&&((bJ t.f1 != 0)&&(aG t.f2 0 3&&(decide (t.f4.length≤4)&&asc t.f0 t.f4 none)))
noncomputable def iz (ts:List GTask) (i:Int) (t:GTask):Bool:=dz t.f0&&((aq ts t.f0==i)&&((bJ t.f1 != 0)&&(aG t.f2 0 3&&(asc t.f0 t.f4 none&&t.f4.all fun n=>decide (0≤aq ts n)))))
noncomputable def li (ts:List GTask) (i:Int):Bool:=match aN ts i with | some t=>iz ts i t | none=>false
theorem CW {t:GTask} (h:ak.sm t):t.f0.size≤2000000:=by
 have:t.f0.size≤1050000:=h.1
 omega
theorem GD (t:GTask) (h:ak.sm t):nw t=some (oA t):=by
 have h4:t.f4.length≤1050000:=h.2.2.1
 unfold nw oA
 rw [if_pos (CW h)]
 cases dz t.f0 with
 | false=>rfl
 | true =>
  have e:(bJ t.f1 != 0) = !(bJ t.f1==0):=rfl
  rw [cond_true,Bool.true_and,e]
  cases bJ t.f1==0 with
  | true=>rfl
  | false =>
   rw [cond_false,Bool.not_false,Bool.true_and]
   cases aG t.f2 0 3 with
   | false=>rfl
   | true =>
    rw [cond_true,Bool.true_and]
    by_cases q:t.f4.length≤4
    ·rw [decide_eq_false (by omega),cond_false,decide_eq_true q,if_pos (by omega),GG t.f0 t.f4 h4 t.f4 0 t.f3 rfl,if_pos rfl,Bool.true_and]
     cases asc t.f0 t.f4 none<;>rfl
    ·rw [decide_eq_true (by omega),decide_eq_false q];rfl
theorem Cw (ts:List GTask) (i:Int) (h:ak.sm ts) (hi:0≤i∧i<(ts.length:Int)):mG ts i=some (li ts i):=by
 obtain ⟨t,hg,hm⟩:=wN hi
 have ht:=h.2 t hm
 have h4:t.f4.length≤1050000:=ht.2.2.1
 unfold mG li iz
 rw [hg,Option.bind_some,if_pos (CW ht)]
 simp only
 cases dz t.f0 with
 | false=>rfl
 | true =>
  have e1:(aq ts t.f0 != i) = !(aq ts t.f0==i):=rfl
  have e:(bJ t.f1 != 0) = !(bJ t.f1==0):=rfl
  rw [cond_true,Bool.true_and,if_pos h.1,e1,e]
  cases aq ts t.f0==i with
  | false=>rfl
  | true =>
   rw [Bool.not_true,cond_false,Bool.true_and]
   cases bJ t.f1==0 with
   | true=>rfl
   | false =>
    rw [cond_false,Bool.not_false,Bool.true_and]
    cases aG t.f2 0 3 with
    | false=>rfl
    | true =>
     rw [cond_true,Bool.true_and,if_pos (by omega),GH ts h.1 t.f0 t.f4 h4 t.f4 0 t.f3 rfl,if_pos rfl]
     cases (asc t.f0 t.f4 none&&t.f4.all fun n=>decide (0≤aq ts n))<;>rfl
theorem Em (ts:List GTask) (h4:ts.length≤4) (i:Int) (t:GTask):iz ts i t=(oA t&&((aq ts t.f0==i)&&t.f4.all fun n=>decide (0≤aq ts n))):=by
 unfold iz oA
 by_cases q:asc t.f0 t.f4 none=true∧(t.f4.all fun n=>decide (0≤aq ts n))=true
 ·have hl:t.f4.length≤4:=by
   have:=CX (l:=t.f4.map tx) (m:=ts.map fun u=>tx u.f0) (xx t.f0 t.f4 none q.1).1 (fun x hx=>by
    obtain ⟨n,hn,rfl⟩:=List.mem_map.1 hx
    have:=List.all_eq_true.1 q.2 n hn
    obtain ⟨u,hu,e⟩:=Cv (of_decide_eq_true this)
    exact List.mem_map.2 ⟨u,hu,e⟩)
   simp only [List.length_map] at this
   omega
  rw [decide_eq_true hl,q.1,q.2]
  cases dz t.f0<;>cases aq ts t.f0==i<;>cases bJ t.f1 != 0<;>cases aG t.f2 0 3<;>rfl
 ·have hf:(asc t.f0 t.f4 none&&t.f4.all fun n=>decide (0≤aq ts n))=false:=by
   rw [← Bool.not_eq_true,Bool.and_eq_true];exact q
  rw [hf]
  revert hf
  generalize (t.f4.all fun n=>decide (0≤aq ts n))=B
  generalize asc t.f0 t.f4 none=A
  generalize decide (t.f4.length≤4)=C
  intro hf
  cases A<;>cases B<;>simp at hf<;>cases dz t.f0<;>cases aq ts t.f0==i<;>cases bJ t.f1 != 0<;>cases aG t.f2 0 3<;>cases C<;>rfl
theorem nl (x0:GTask) (h:ak.sm x0):Does E 53 [.agg (GTask.t .far x0)] [(false,[tB (oA x0)])]:=by
 exact DM x0 _ (GD x0 h)
theorem tQ {q0:Kd} (x0:List GTask) (x1:Int) (h:ak.sm x0) (hi:0≤x1∧x1<(x0.length:Int)):Does E 47 [.one (.s .far () 5 (x0.map (GTask.t q0))),.one (tI x1)] [(false,[tB (li x0 x1)])]:=by
 exact Cr x0 x1 _ (Cw x0 x1 h hi)
noncomputable def nu (x0:ByteArray):Option (Bool) :=
  cond ((an x0).2)
   (if ak.sm ((an x0).1) then some (((aX ((an x0).1)).1).toList==x0.toList) else none)
   (if ak.sm ((an x0).1) then some (false) else none)
theorem DJ (x0:ByteArray):Ans (nu x0) (fun r=>Does E 51 [.one (tS x0)] [(false,[tB r])]):=by
 unfold nu
 apply JJ<;>intro h0
 ·refine JL (fun h1 => ?_)
  exact JG (DP Tryz.f51 [.ret [(true,GCron.t .own ((an x0).1)),(false,[tB true])],.ret [(false,[tS ((aX ((an x0).1)).1)]),(false,[tB ((aX ((an x0).1)).2)])]] (AD (oE x0 h0)<|AD (rU ((an x0).1) h1)<|AN))
 ·refine JL (fun h1 => ?_)
  exact JG (DP Tryz.f51 [.ret [(true,GCron.t .own ((an x0).1)),(false,[tB false])],.ret [(false,[tS ((aX ((an x0).1)).1)]),(false,[tB ((aX ((an x0).1)).2)])]] (AD (oE x0 h0)<|AD (rU ((an x0).1) h1)<|AN))
noncomputable def ic (s:ByteArray):Bool:=(an s).2&&((aX (an s).1).1.toList==s.toList)
theorem F0 (s:ByteArray):nu s=some (ic s):=by
 unfold nu ic
 simp only [AF s,if_true]
 cases (an s).2<;>rfl
theorem ia (x0:ByteArray):Does E 51 [.one (tS x0)] [(false,[tB (ic x0)])]:=by
 exact DJ x0 _ (F0 x0)
inductive we where
 | ret (v2:Bool)
 | x0 
def jN (q0:Kd) (v1_0 v1_1:ByteArray) (v1_2 v1_3:Int) (v1_4:Bool) (v1_5:List GTask) (v7:Int):US:=stL 74 [(1,.box () [tS v1_0,tS v1_1,tI v1_2,tI v1_3,tB v1_4,.s .far () 5 (v1_5.map (GTask.t q0))]),(7,.one (tI v7))]
def nc (q0:Kd) (zv2:Bool):US:=stL 74 [(2,.one (tB zv2))]
def oq (q0:Kd) (v1_0 v1_1:ByteArray) (v1_2 v1_3:Int) (v1_4:Bool) (v1_5:List GTask):US:=stL 74 [(1,.box () [tS v1_0,tS v1_1,tI v1_2,tI v1_3,tB v1_4,.s .far () 5 (v1_5.map (GTask.t q0))])]
abbrev rc:US→Exit→US→Prop:=Round E 23 (av Tryz.f23 0)
def Ed {q0:Kd} (v1_0 v1_1:ByteArray) (v1_2 v1_3:Int) (v1_4:Bool) (v1_5:List GTask) (v7:Int):we→Prop
 | .ret zv2=>Loops E 23 (av Tryz.f23 0) (jN q0 v1_0 v1_1 v1_2 v1_3 v1_4 v1_5 v7) .ret (nc q0 zv2)
 | .x0=>Loops E 23 (av Tryz.f23 0) (jN q0 v1_0 v1_1 v1_2 v1_3 v1_4 v1_5 v7) (.exit 0) (oq q0 v1_0 v1_1 v1_2 v1_3 v1_4 v1_5)
noncomputable def it (v1_5:List GTask):List GTask→Nat→Bool→Option we
 | [],i,v1_4=>some (.x0)
 | hd::rest,i,v1_4=>if ak.sm v1_5 then if 0≤(i:Int)∧(i:Int)<(v1_5.length:Int) then cond (li v1_5 (i:Int))
  (it v1_5 rest (i+1) v1_4)
  (some (.ret false)) else none else none
theorem Ec {q0:Kd} (v1_0 v1_1:ByteArray) (v1_2 v1_3:Int) (v1_5:List GTask) (rest:List GTask):∀ (i:Nat) (v1_4:Bool),(v1_5).drop i=rest→v1_5.length≤9223372036854775807→Ans (it v1_5 rest i v1_4) (Ed (q0:=q0) v1_0 v1_1 v1_2 v1_3 v1_4 v1_5 (i:Int)):=by
 induction rest with
 | nil =>
  intro i v1_4 hE hl
  have hb:=bG hE
  unfold it
  exact JG (JI (show rc (jN q0 v1_0 v1_1 v1_2 v1_3 v1_4 v1_5 (i:Int)) (.exit 0) (oq q0 v1_0 v1_1 v1_2 v1_3 v1_4 v1_5) from RP [.val (.int .i64 (v1_5.length:Int)),.b false] (ALn v1_5 (GTask.t q0)<|AC hb<|AN)) (by intro h;cases h))
 | cons hd rest ih =>
  intro i v1_4 hE hl
  have hb:=bm hE
  have hw:=bn hE hl
  have hE2:=aK hE
  have hg:=bo hE
  unfold it
  refine JL (fun h1 => ?_)
  refine JL (fun h2 => ?_)
  apply JJ<;>intro h3
  ·exact (ih (i+1) v1_4 hE2 hl).mono fun y hy=>by have r:rc (jN q0 v1_0 v1_1 v1_2 v1_3 v1_4 v1_5 (i:Int)) .normal (jN q0 v1_0 v1_1 v1_2 v1_3 v1_4 v1_5 (inc (i:Int))):=RP [.val (.int .i64 (v1_5.length:Int)),.b true,rT] (ALn v1_5 (GTask.t q0)<|AC hb<|AV (ψ:=fun k=>E.C k 47 [.one (.s .far () 5 (v1_5.map (GTask.t q0))),.one (tI (i:Int))]=some [(false,[tB true])]) (JM (tQ v1_5 (i:Int) h1 h2) (by rw [h3]))<|AN);rw [hw] at r;cases y<;>exact JH r hy
  ·exact JG (JI (show rc (jN q0 v1_0 v1_1 v1_2 v1_3 v1_4 v1_5 (i:Int)) .ret (nc q0 false) from RP [.val (.int .i64 (v1_5.length:Int)),.b true,rF] (ALn v1_5 (GTask.t q0)<|AC hb<|AV (ψ:=fun k=>E.C k 47 [.one (.s .far () 5 (v1_5.map (GTask.t q0))),.one (tI (i:Int))]=some [(false,[tB false])]) (JM (tQ v1_5 (i:Int) h1 h2) (by rw [h3]))<|AN)) (by intro h;cases h))
noncomputable def oZ (x0:GDag):Option (Bool) :=
  cond ((an x0.f1).2)
   (if ak.sm ((an x0.f1).1) then if x0.f0.size≤2000000 then cond (dz x0.f0)
    (cond (!(((aX ((an x0.f1).1)).1).toList==x0.f1.toList))
     (some (false))
     (cond (aG x0.f3 (0:Int) (68374079:Int))
      (cond (aG x0.f2 (0:Int) x0.f3)
       (cond (aG (x0.f5.length:Int) (1:Int) (4:Int))
        (if x0.f5.length≤9223372036854775807 then (it x0.f5 x0.f5 0 x0.f4).bind fun y=>match y with
         | .ret w0_2=>(some (w0_2))
         | .x0=>(if ak.sm x0.f5 then if fo x0.f5 then some (((lM x0.f5).length:Int)==(x0.f5.length:Int)) else none else none) else none)
        (some (false)))
       (some (false)))
      (some (false))))
    (some (false)) else none else none)
   (if ak.sm ((an x0.f1).1) then if x0.f0.size≤2000000 then cond (dz x0.f0)
    (some (false))
    (some (false)) else none else none)
theorem FB {q0:Kd} (x0:GDag):Ans (oZ x0) (fun r=>Does E 23 [.agg (GDag.t .far q0 x0)] [(false,[tB r])]):=by
 unfold oZ
 apply JJ<;>intro f1
 ·refine JL (fun f2 => ?_)
  refine JL (fun f3 => ?_)
  apply JJ<;>intro f4
  ·apply JJ<;>intro h4
   ·exact JG (DP Tryz.f23 [.ret [(true,GCron.t .own ((an x0.f1).1)),(false,[tB true])],.ret [(false,[tS ((aX ((an x0.f1).1)).1)]),(false,[tB ((aX ((an x0.f1).1)).2)])],rT,.b true] (AD (dY x0.f1 f1)<|AD (dZ ((an x0.f1).1) f2)<|AD (JO (ct x0.f0 f3) f4)<|AC h4<|AN))
   ·apply JJ<;>intro h5
    ·apply JJ<;>intro h6
     ·apply JJ<;>intro h7
      ·refine JL (fun hl7 => ?_)
       refine JK (fun y hy => ?_)
       replace hy:=Ec (q0:=q0) x0.f0 x0.f1 x0.f2 x0.f3 x0.f5 x0.f5 0 x0.f4 rfl hl7 y hy
       cases y with
       | ret w0_2 =>
        have h8:=hy
        exact JG (DP Tryz.f23 [.ret [(true,GCron.t .own ((an x0.f1).1)),(false,[tB true])],.ret [(false,[tS ((aX ((an x0.f1).1)).1)]),(false,[tB ((aX ((an x0.f1).1)).2)])],rT,.b false,rT,rT,.val (.int .i64 (x0.f5.length:Int)),rT,.lp .ret (nc q0 w0_2)] (AD (dY x0.f1 f1)<|AD (dZ ((an x0.f1).1) f2)<|AD (JO (ct x0.f0 f3) f4)<|AC h4<|AD (JO (bu x0.f3 (0:Int) (68374079:Int)) h5)<|AD (JO (bu x0.f2 (0:Int) x0.f3) h6)<|ALn x0.f5 (GTask.t q0)<|AD (JO (bu (x0.f5.length:Int) (1:Int) (4:Int)) h7)<|AL h8<|AN))
       | x0 =>
        have h8:=hy
        refine JL (fun h9 => ?_)
        refine JL (fun h10 => ?_)
        exact JG (DP Tryz.f23 [.ret [(true,GCron.t .own ((an x0.f1).1)),(false,[tB true])],.ret [(false,[tS ((aX ((an x0.f1).1)).1)]),(false,[tB ((aX ((an x0.f1).1)).2)])],rT,.b false,rT,rT,.val (.int .i64 (x0.f5.length:Int)),rT,.lp (.exit 0) (oq q0 x0.f0 x0.f1 x0.f2 x0.f3 x0.f4 x0.f5),.ret [(false,[.s .own () 1 ((lM x0.f5).map etI)])],.val (.int .i64 ((lM x0.f5).length:Int)),.val (.int .i64 (x0.f5.length:Int))] (AD (dY x0.f1 f1)<|AD (dZ ((an x0.f1).1) f2)<|AD (JO (ct x0.f0 f3) f4)<|AC h4<|AD (JO (bu x0.f3 (0:Int) (68374079:Int)) h5)<|AD (JO (bu x0.f2 (0:Int) x0.f3) h6)<|ALn x0.f5 (GTask.t q0)<|AD (JO (bu (x0.f5.length:Int) (1:Int) (4:Int)) h7)<|AL h8<|AV (ψ:=fun k=>E.C k 48 [.one (.s .far () 5 (x0.f5.map (GTask.t q0)))]=some [(false,[.s .own () 1 ((lM x0.f5).map etI)])]) (zg x0.f5 h9 h10)<|ALn (lM x0.f5) etI<|ALn x0.f5 (GTask.t q0)<|AN))
      ·exact JG (DP Tryz.f23 [.ret [(true,GCron.t .own ((an x0.f1).1)),(false,[tB true])],.ret [(false,[tS ((aX ((an x0.f1).1)).1)]),(false,[tB ((aX ((an x0.f1).1)).2)])],rT,.b false,rT,rT,.val (.int .i64 (x0.f5.length:Int)),rF] (AD (dY x0.f1 f1)<|AD (dZ ((an x0.f1).1) f2)<|AD (JO (ct x0.f0 f3) f4)<|AC h4<|AD (JO (bu x0.f3 (0:Int) (68374079:Int)) h5)<|AD (JO (bu x0.f2 (0:Int) x0.f3) h6)<|ALn x0.f5 (GTask.t q0)<|AD (JO (bu (x0.f5.length:Int) (1:Int) (4:Int)) h7)<|AN))
     ·exact JG (DP Tryz.f23 [.ret [(true,GCron.t .own ((an x0.f1).1)),(false,[tB true])],.ret [(false,[tS ((aX ((an x0.f1).1)).1)]),(false,[tB ((aX ((an x0.f1).1)).2)])],rT,.b false,rT,rF] (AD (dY x0.f1 f1)<|AD (dZ ((an x0.f1).1) f2)<|AD (JO (ct x0.f0 f3) f4)<|AC h4<|AD (JO (bu x0.f3 (0:Int) (68374079:Int)) h5)<|AD (JO (bu x0.f2 (0:Int) x0.f3) h6)<|AN))
    ·exact JG (DP Tryz.f23 [.ret [(true,GCron.t .own ((an x0.f1).1)),(false,[tB true])],.ret [(false,[tS ((aX ((an x0.f1).1)).1)]),(false,[tB ((aX ((an x0.f1).1)).2)])],rT,.b false,rF] (AD (dY x0.f1 f1)<|AD (dZ ((an x0.f1).1) f2)<|AD (JO (ct x0.f0 f3) f4)<|AC h4<|AD (JO (bu x0.f3 (0:Int) (68374079:Int)) h5)<|AN))
  ·exact JG (DP Tryz.f23 [.ret [(true,GCron.t .own ((an x0.f1).1)),(false,[tB ((an x0.f1).2)])],.ret [(false,[tS ((aX ((an x0.f1).1)).1)]),(false,[tB ((aX ((an x0.f1).1)).2)])],rF] (AD (mV x0.f1)<|AD (dZ ((an x0.f1).1) f2)<|AD (JO (ct x0.f0 f3) f4)<|AN))
 ·refine JL (fun f5 => ?_)
  refine JL (fun f6 => ?_)
  apply JJ<;>intro f7
  ·exact JG (DP Tryz.f23 [.ret [(true,GCron.t .own ((an x0.f1).1)),(false,[tB false])],.ret [(false,[tS ((aX ((an x0.f1).1)).1)]),(false,[tB ((aX ((an x0.f1).1)).2)])],rT] (AD (dY x0.f1 f1)<|AD (dZ ((an x0.f1).1) f5)<|AD (JO (ct x0.f0 f6) f7)<|AN))
  ·exact JG (DP Tryz.f23 [.ret [(true,GCron.t .own ((an x0.f1).1)),(false,[tB ((an x0.f1).2)])],.ret [(false,[tS ((aX ((an x0.f1).1)).1)]),(false,[tB ((aX ((an x0.f1).1)).2)])],rF] (AD (mV x0.f1)<|AD (dZ ((an x0.f1).1) f5)<|AD (JO (ct x0.f0 f6) f7)<|AN))
inductive vC where
 | ret (v2:Bool)
 | x2 
def jB (q0:Kd) (v1_0 v1_1:ByteArray) (v1_2 v1_3:Int) (v1_4:Bool) (v1_5 v40:List GTask) (v41 v42:Int) (v59:List ByteArray) (v60 v61:Int):US:=stL 78 [(1,.box () [tS v1_0,tS v1_1,tI v1_2,tI v1_3,tB v1_4,.s .far () 5 (v1_5.map (GTask.t q0))]),(40,.one (.s .far () 5 (v40.map (GTask.t q0)))),(41,.one (tI v41)),(42,.one (tI v42)),(59,.one (.s .far () 1 (v59.map etS))),(60,.one (tI v60)),(61,.one (tI v61))]
def mZ (q0:Kd) (zv2:Bool):US:=stL 78 [(2,.one (tB zv2))]
def nY (q0:Kd) (v1_0 v1_1:ByteArray) (v1_2 v1_3:Int) (v1_4:Bool) (v1_5 v40:List GTask) (v41 v42:Int):US:=stL 78 [(1,.box () [tS v1_0,tS v1_1,tI v1_2,tI v1_3,tB v1_4,.s .far () 5 (v1_5.map (GTask.t q0))]),(40,.one (.s .far () 5 (v40.map (GTask.t q0)))),(41,.one (tI v41)),(42,.one (tI v42))]
abbrev qM:US→Exit→US→Prop:=Round E 27 (av Tryz.f27 1)
def DE {q0:Kd} (v1_0 v1_1:ByteArray) (v1_2 v1_3:Int) (v1_4:Bool) (v1_5 v40:List GTask) (v41 v42:Int) (v59:List ByteArray) (v60 v61:Int):vC→Prop
 | .ret zv2=>Loops E 27 (av Tryz.f27 1) (jB q0 v1_0 v1_1 v1_2 v1_3 v1_4 v1_5 v40 v41 v42 v59 v60 v61) .ret (mZ q0 zv2)
 | .x2=>Loops E 27 (av Tryz.f27 1) (jB q0 v1_0 v1_1 v1_2 v1_3 v1_4 v1_5 v40 v41 v42 v59 v60 v61) (.exit 2) (nY q0 v1_0 v1_1 v1_2 v1_3 v1_4 v1_5 v40 v41 v42)
noncomputable def ii (v1_0 v1_1:ByteArray) (v1_2 v1_3:Int) (v1_5:List GTask):List ByteArray→Nat→Bool→Option vC
 | [],i,v1_4=>some (.x2)
 | hd::rest,i,v1_4=>if (GDag.mk v1_0 v1_1 v1_2 v1_3 v1_4 v1_5).f5.length≤1050000 then cond (decide ((cg (GDag.mk v1_0 v1_1 v1_2 v1_3 v1_4 v1_5) hd)<(0:Int)))
  (some (.ret false))
  (ii v1_0 v1_1 v1_2 v1_3 v1_5 rest (i+1) v1_4) else none
theorem DC {q0:Kd} (v1_0 v1_1:ByteArray) (v1_2 v1_3:Int) (v1_5 v40:List GTask) (v41 v42:Int) (v59:List ByteArray) (rest:List ByteArray):∀ (i:Nat) (v1_4:Bool),(v59).drop i=rest→v59.length≤9223372036854775807→Ans (ii v1_0 v1_1 v1_2 v1_3 v1_5 rest i v1_4) (DE (q0:=q0) v1_0 v1_1 v1_2 v1_3 v1_4 v1_5 v40 v41 v42 v59 (v59.length:Int) (i:Int)):=by
 induction rest with
 | nil =>
  intro i v1_4 hE hl
  have hb:=bG hE
  unfold ii
  exact JG (JI (show qM (jB q0 v1_0 v1_1 v1_2 v1_3 v1_4 v1_5 v40 v41 v42 v59 (v59.length:Int) (i:Int)) (.exit 2) (nY q0 v1_0 v1_1 v1_2 v1_3 v1_4 v1_5 v40 v41 v42) from RP [.b false] (AC hb<|AN)) (by intro h;cases h))
 | cons hd rest ih =>
  intro i v1_4 hE hl
  have hb:=bm hE
  have hw:=bn hE hl
  have hE2:=aK hE
  have hg:=bo hE
  unfold ii
  refine JL (fun h2 => ?_)
  apply JJ<;>intro h3
  ·exact JG (JI (show qM (jB q0 v1_0 v1_1 v1_2 v1_3 v1_4 v1_5 v40 v41 v42 v59 (v59.length:Int) (i:Int)) .ret (mZ q0 false) from RP [.b true,.row (etS hd),.ret [(false,[tI (cg (GDag.mk v1_0 v1_1 v1_2 v1_3 v1_4 v1_5) hd)])],.b true] (AC hb<|AR etS hg<|AV (ψ:=fun k=>E.C k 54 [.agg (GDag.t .far q0 (GDag.mk v1_0 v1_1 v1_2 v1_3 v1_4 v1_5)),.one (tS hd)]=some [(false,[tI (cg (GDag.mk v1_0 v1_1 v1_2 v1_3 v1_4 v1_5) hd)])]) (fj (GDag.mk v1_0 v1_1 v1_2 v1_3 v1_4 v1_5) hd h2)<|AC h3<|AN)) (by intro h;cases h))
  ·exact (ih (i+1) v1_4 hE2 hl).mono fun y hy=>by have r:qM (jB q0 v1_0 v1_1 v1_2 v1_3 v1_4 v1_5 v40 v41 v42 v59 (v59.length:Int) (i:Int)) .normal (jB q0 v1_0 v1_1 v1_2 v1_3 v1_4 v1_5 v40 v41 v42 v59 (v59.length:Int) (inc (i:Int))):=RP [.b true,.row (etS hd),.ret [(false,[tI (cg (GDag.mk v1_0 v1_1 v1_2 v1_3 v1_4 v1_5) hd)])],.b false] (AC hb<|AR etS hg<|AV (ψ:=fun k=>E.C k 54 [.agg (GDag.t .far q0 (GDag.mk v1_0 v1_1 v1_2 v1_3 v1_4 v1_5)),.one (tS hd)]=some [(false,[tI (cg (GDag.mk v1_0 v1_1 v1_2 v1_3 v1_4 v1_5) hd)])]) (fj (GDag.mk v1_0 v1_1 v1_2 v1_3 v1_4 v1_5) hd h2)<|AC h3<|AN);rw [hw] at r;cases y<;>exact JH r hy
inductive vB where
 | ret (v2:Bool)
 | x0 
def gn (q0:Kd) (v1_0 v1_1:ByteArray) (v1_2 v1_3:Int) (v1_4:Bool) (v1_5 v40:List GTask) (v41 v42:Int):US:=stL 78 [(1,.box () [tS v1_0,tS v1_1,tI v1_2,tI v1_3,tB v1_4,.s .far () 5 (v1_5.map (GTask.t q0))]),(40,.one (.s .far () 5 (v40.map (GTask.t q0)))),(41,.one (tI v41)),(42,.one (tI v42))]
def iC (q0:Kd) (zv2:Bool):US:=stL 78 [(2,.one (tB zv2))]
def nX (q0:Kd) (v1_0 v1_1:ByteArray) (v1_2 v1_3:Int) (v1_4:Bool) (v1_5:List GTask):US:=stL 78 [(1,.box () [tS v1_0,tS v1_1,tI v1_2,tI v1_3,tB v1_4,.s .far () 5 (v1_5.map (GTask.t q0))])]
abbrev lz:US→Exit→US→Prop:=Round E 27 (av Tryz.f27 0)
def DD {q0:Kd} (v1_0 v1_1:ByteArray) (v1_2 v1_3:Int) (v1_4:Bool) (v1_5 v40:List GTask) (v41 v42:Int):vB→Prop
 | .ret zv2=>Loops E 27 (av Tryz.f27 0) (gn q0 v1_0 v1_1 v1_2 v1_3 v1_4 v1_5 v40 v41 v42) .ret (iC q0 zv2)
 | .x0=>Loops E 27 (av Tryz.f27 0) (gn q0 v1_0 v1_1 v1_2 v1_3 v1_4 v1_5 v40 v41 v42) (.exit 0) (nX q0 v1_0 v1_1 v1_2 v1_3 v1_4 v1_5)
noncomputable def ig (v1_0 v1_1:ByteArray) (v1_2 v1_3:Int) (v1_5:List GTask):List GTask→Nat→Bool→Option vB
 | [],i,v1_4=>some (.x0)
 | hd::rest,i,v1_4=>if ak.sm hd then cond (oA hd)
  (if (GDag.mk v1_0 v1_1 v1_2 v1_3 v1_4 v1_5).f5.length≤1050000 then cond ((cg (GDag.mk v1_0 v1_1 v1_2 v1_3 v1_4 v1_5) hd.f0) != (i:Int))
   (some (.ret false))
   (if hd.f4.length≤9223372036854775807 then (ii v1_0 v1_1 v1_2 v1_3 v1_5 hd.f4 0 v1_4).bind fun y=>match y with
    | .ret w0_2=>(some (.ret w0_2))
    | .x2=>(ig v1_0 v1_1 v1_2 v1_3 v1_5 rest (i+1) v1_4) else none) else none)
  (some (.ret false)) else none
theorem DB {q0:Kd} (v1_0 v1_1:ByteArray) (v1_2 v1_3:Int) (v1_5 v40:List GTask) (rest:List GTask):∀ (i:Nat) (v1_4:Bool),(v40).drop i=rest→v40.length≤9223372036854775807→Ans (ig v1_0 v1_1 v1_2 v1_3 v1_5 rest i v1_4) (DD (q0:=q0) v1_0 v1_1 v1_2 v1_3 v1_4 v1_5 v40 (v40.length:Int) (i:Int)):=by
 induction rest with
 | nil =>
  intro i v1_4 hE hl
  have hb:=bG hE
  unfold ig
  exact JG (JI (show lz (gn q0 v1_0 v1_1 v1_2 v1_3 v1_4 v1_5 v40 (v40.length:Int) (i:Int)) (.exit 0) (nX q0 v1_0 v1_1 v1_2 v1_3 v1_4 v1_5) from RP [.b false] (AC hb<|AN)) (by intro h;cases h))
 | cons hd rest ih =>
  intro i v1_4 hE hl
  have hb:=bm hE
  have hw:=bn hE hl
  have hE2:=aK hE
  have hg:=bo hE
  unfold ig
  refine JL (fun h2 => ?_)
  apply JJ<;>intro h3
  ·refine JL (fun h4 => ?_)
   apply JJ<;>intro h5
   ·exact JG (JI (show lz (gn q0 v1_0 v1_1 v1_2 v1_3 v1_4 v1_5 v40 (v40.length:Int) (i:Int)) .ret (iC q0 false) from RP [.b true,.row ((GTask.t q0) hd),rT,.ret [(false,[tI (cg (GDag.mk v1_0 v1_1 v1_2 v1_3 v1_4 v1_5) hd.f0)])],.b true] (AC hb<|AR (GTask.t q0) hg<|AD (JO (nl hd h2) h3)<|AV (ψ:=fun k=>E.C k 54 [.agg (GDag.t .far q0 (GDag.mk v1_0 v1_1 v1_2 v1_3 v1_4 v1_5)),.one (tS hd.f0)]=some [(false,[tI (cg (GDag.mk v1_0 v1_1 v1_2 v1_3 v1_4 v1_5) hd.f0)])]) (fj (GDag.mk v1_0 v1_1 v1_2 v1_3 v1_4 v1_5) hd.f0 h4)<|AC h5<|AN)) (by intro h;cases h))
   ·refine JL (fun hl4 => ?_)
    refine JK (fun y hy => ?_)
    replace hy:=DC (q0:=q0) v1_0 v1_1 v1_2 v1_3 v1_5 v40 (v40.length:Int) (i:Int) hd.f4 hd.f4 0 v1_4 rfl hl4 y hy
    cases y with
    | ret w0_2 =>
     have h6:=hy
     exact JG (JI (show lz (gn q0 v1_0 v1_1 v1_2 v1_3 v1_4 v1_5 v40 (v40.length:Int) (i:Int)) .ret (iC q0 w0_2) from RP [.b true,.row ((GTask.t q0) hd),rT,.ret [(false,[tI (cg (GDag.mk v1_0 v1_1 v1_2 v1_3 v1_4 v1_5) hd.f0)])],.b false,.val (.int .i64 (hd.f4.length:Int)),.lp .ret (mZ q0 w0_2)] (AC hb<|AR (GTask.t q0) hg<|AD (JO (nl hd h2) h3)<|AV (ψ:=fun k=>E.C k 54 [.agg (GDag.t .far q0 (GDag.mk v1_0 v1_1 v1_2 v1_3 v1_4 v1_5)),.one (tS hd.f0)]=some [(false,[tI (cg (GDag.mk v1_0 v1_1 v1_2 v1_3 v1_4 v1_5) hd.f0)])]) (fj (GDag.mk v1_0 v1_1 v1_2 v1_3 v1_4 v1_5) hd.f0 h4)<|AC h5<|ALn hd.f4 etS<|AL h6<|AN)) (by intro h;cases h))
    | x2 =>
     have h6:=hy
     exact (ih (i+1) v1_4 hE2 hl).mono fun y hy=>by have r:lz (gn q0 v1_0 v1_1 v1_2 v1_3 v1_4 v1_5 v40 (v40.length:Int) (i:Int)) .normal (gn q0 v1_0 v1_1 v1_2 v1_3 v1_4 v1_5 v40 (v40.length:Int) (inc (i:Int))):=RP [.b true,.row ((GTask.t q0) hd),rT,.ret [(false,[tI (cg (GDag.mk v1_0 v1_1 v1_2 v1_3 v1_4 v1_5) hd.f0)])],.b false,.val (.int .i64 (hd.f4.length:Int)),.lp (.exit 2) (nY q0 v1_0 v1_1 v1_2 v1_3 v1_4 v1_5 v40 (v40.length:Int) (i:Int))] (AC hb<|AR (GTask.t q0) hg<|AD (JO (nl hd h2) h3)<|AV (ψ:=fun k=>E.C k 54 [.agg (GDag.t .far q0 (GDag.mk v1_0 v1_1 v1_2 v1_3 v1_4 v1_5)),.one (tS hd.f0)]=some [(false,[tI (cg (GDag.mk v1_0 v1_1 v1_2 v1_3 v1_4 v1_5) hd.f0)])]) (fj (GDag.mk v1_0 v1_1 v1_2 v1_3 v1_4 v1_5) hd.f0 h4)<|AC h5<|ALn hd.f4 etS<|AL h6<|AN);rw [hw] at r;cases y<;>exact JH r hy
  ·exact JG (JI (show lz (gn q0 v1_0 v1_1 v1_2 v1_3 v1_4 v1_5 v40 (v40.length:Int) (i:Int)) .ret (iC q0 false) from RP [.b true,.row ((GTask.t q0) hd),rF] (AC hb<|AR (GTask.t q0) hg<|AD (JO (nl hd h2) h3)<|AN)) (by intro h;cases h))
noncomputable def oM (x0:GDag):Option (Bool) :=
  if x0.f0.size≤2000000 then cond (dz x0.f0)
   (cond (ic x0.f1)
    (cond (decide (x0.f2<(0:Int)))
     (some (false))
     (cond (decide (x0.f2>x0.f3))
      (some (false))
      (cond (decide (x0.f3>(68374079:Int)))
       (some (false))
       (cond (aG (x0.f5.length:Int) (1:Int) (4:Int))
        (if x0.f5.length≤9223372036854775807 then (ig x0.f0 x0.f1 x0.f2 x0.f3 x0.f5 x0.f5 0 x0.f4).bind fun y=>match y with
         | .ret w0_2=>(some (w0_2))
         | .x0=>(if ak.sm x0 then if fo x0.f5 then some (((mh x0).length:Int)==(x0.f5.length:Int)) else none else none) else none)
        (some (false))))))
    (some (false)))
   (some (false)) else none
theorem E3 {q0:Kd} (x0:GDag):Ans (oM x0) (fun r=>Does E 27 [.agg (GDag.t .far q0 x0)] [(false,[tB r])]):=by
 unfold oM
 refine JL (fun h0 => ?_)
 apply JJ<;>intro h1
 ·apply JJ<;>intro h2
  ·apply JJ<;>intro h3
   ·exact JG (DP Tryz.f27 [rT,rT,.b true] (AD (JO (cL x0.f0 h0) h1)<|AD (JO (ia x0.f1) h2)<|AC h3<|AN))
   ·apply JJ<;>intro h4
    ·exact JG (DP Tryz.f27 [rT,rT,.b false,.b true] (AD (JO (cL x0.f0 h0) h1)<|AD (JO (ia x0.f1) h2)<|AC h3<|AC h4<|AN))
    ·apply JJ<;>intro h5
     ·exact JG (DP Tryz.f27 [rT,rT,.b false,.b false,.b true] (AD (JO (cL x0.f0 h0) h1)<|AD (JO (ia x0.f1) h2)<|AC h3<|AC h4<|AC h5<|AN))
     ·apply JJ<;>intro h6
      ·refine JL (fun hl7 => ?_)
       refine JK (fun y hy => ?_)
       replace hy:=DB (q0:=q0) x0.f0 x0.f1 x0.f2 x0.f3 x0.f5 x0.f5 x0.f5 0 x0.f4 rfl hl7 y hy
       cases y with
       | ret w0_2 =>
        have h7:=hy
        exact JG (DP Tryz.f27 [rT,rT,.b false,.b false,.b false,.val (.int .i64 (x0.f5.length:Int)),rT,.val (.int .i64 (x0.f5.length:Int)),.lp .ret (iC q0 w0_2)] (AD (JO (cL x0.f0 h0) h1)<|AD (JO (ia x0.f1) h2)<|AC h3<|AC h4<|AC h5<|ALn x0.f5 (GTask.t q0)<|AD (JO (cW (x0.f5.length:Int) (1:Int) (4:Int)) h6)<|ALn x0.f5 (GTask.t q0)<|AL h7<|AN))
       | x0 =>
        have h7:=hy
        refine JL (fun h8 => ?_)
        refine JL (fun h9 => ?_)
        exact JG (DP Tryz.f27 [rT,rT,.b false,.b false,.b false,.val (.int .i64 (x0.f5.length:Int)),rT,.val (.int .i64 (x0.f5.length:Int)),.lp (.exit 0) (nX q0 x0.f0 x0.f1 x0.f2 x0.f3 x0.f4 x0.f5),.ret [(false,[.s .own () 1 ((mh x0).map etI)])],.val (.int .i64 ((mh x0).length:Int)),.val (.int .i64 (x0.f5.length:Int))] (AD (JO (cL x0.f0 h0) h1)<|AD (JO (ia x0.f1) h2)<|AC h3<|AC h4<|AC h5<|ALn x0.f5 (GTask.t q0)<|AD (JO (cW (x0.f5.length:Int) (1:Int) (4:Int)) h6)<|ALn x0.f5 (GTask.t q0)<|AL h7<|AV (ψ:=fun k=>E.C k 55 [.agg (GDag.t .far q0 x0)]=some [(false,[.s .own () 1 ((mh x0).map etI)])]) (Bx x0 h8 h9)<|ALn (mh x0) etI<|ALn x0.f5 (GTask.t q0)<|AN))
      ·exact JG (DP Tryz.f27 [rT,rT,.b false,.b false,.b false,.val (.int .i64 (x0.f5.length:Int)),rF] (AD (JO (cL x0.f0 h0) h1)<|AD (JO (ia x0.f1) h2)<|AC h3<|AC h4<|AC h5<|ALn x0.f5 (GTask.t q0)<|AD (JO (cW (x0.f5.length:Int) (1:Int) (4:Int)) h6)<|AN))
  ·exact JG (DP Tryz.f27 [rT,rF] (AD (JO (cL x0.f0 h0) h1)<|AD (JO (ia x0.f1) h2)<|AN))
 ·exact JG (DP Tryz.f27 [rF] (AD (JO (cL x0.f0 h0) h1)<|AN))
noncomputable def em (ts:List GTask):List GTask→Nat→Bool
 | [],_=>true
 | t::r,i=>iz ts (i:Int) t&&em ts r (i+1)
noncomputable def ky (d:GDag):Bool :=
 dz d.f0&&(ic d.f1&&(aG d.f3 0 68374079&&(aG d.f2 0 d.f3&&(aG (d.f5.length:Int) 1 4&&(em d.f5 d.f5 0&&((lM d.f5).length:Int)==(d.f5.length:Int))))))
theorem wa (ts:List GTask):∀ (rest:List GTask) (i:Nat),ts.drop i=rest→em ts rest i=true→∀ (k:Nat) (t:GTask),i≤k→ts[k]?=some t→iz ts (k:Int) t=true
 | [],i,h,_,k,t,hk,hg=>by
  have:ts.length≤i:=List.drop_eq_nil_iff.1 h
  rw [List.getElem?_eq_none (by omega)] at hg;cases hg
 | x::rest,i,h,hr,k,t,hk,hg=>by
  unfold em at hr
  rw [Bool.and_eq_true] at hr
  by_cases e:k=i
  ·subst e
   have:ts[k]?=some x:=by rw [← List.head?_drop,h];rfl
   rw [this] at hg
   cases hg
   exact hr.1
  ·exact wa ts rest (i+1) (aK h) hr.2 k t (by omega) hg
theorem vz {ts:List GTask} (h4:ts.length≤4) (h:em ts ts 0=true):fo ts:=by
 refine ⟨h4,fun i t hg => ?_⟩
 have:=wa ts ts 0 rfl h i t (Nat.zero_le _) hg
 unfold iz at this
 simp only [Bool.and_eq_true,beq_iff_eq] at this
 exact this.2.1
theorem EE (ts:List GTask) (hs:ak.sm ts):∀ (rest:List GTask) (i:Nat) (z:Bool),ts.drop i=rest→it ts rest i z=some (cond (em ts rest i) .x0 (.ret false))
 | [],i,z,_=>rfl
 | x::rest,i,z,h=>by
  have hi:=nW h
  have hg:=bo h
  have e:li ts (i:Int)=iz ts (i:Int) x:=by unfold li;rw [hg]
  unfold it em
  rw [EE ts hs rest (i+1) z (aK h),if_pos hs,if_pos (by omega),e]
  cases iz ts (i:Int) x<;>rfl
theorem HY (d:GDag) (h:ak.sm d):oZ d=some (ky d):=by
 have hs:ak.sm d.f5:=h.2.2
 have hn:d.f0.size≤2000000:=by have:d.f0.size≤1050000:=h.1;omega
 unfold oZ ky ic
 simp only [hn,AF,if_true]
 cases (an d.f1).2 with
 | false=>cases dz d.f0<;>rfl
 | true =>
  rw [cond_true]
  cases dz d.f0 with
  | false=>rfl
  | true =>
   rw [cond_true,Bool.true_and,Bool.true_and]
   cases (aX (an d.f1).1).1.toList==d.f1.toList with
   | false=>rfl
   | true =>
    rw [Bool.not_true,cond_false,Bool.true_and]
    cases aG d.f3 0 68374079 with
    | false=>rfl
    | true =>
     rw [cond_true,Bool.true_and]
     cases aG d.f2 0 d.f3 with
     | false=>rfl
     | true =>
      rw [cond_true,Bool.true_and]
      cases q:aG (d.f5.length:Int) 1 4 with
      | false=>rfl
      | true =>
       have h4:d.f5.length≤4:=by unfold aG at q;simp at q;omega
       rw [cond_true,Bool.true_and,if_pos (by omega),EE d.f5 hs d.f5 0 d.f4 rfl]
       cases w:em d.f5 d.f5 0 with
       | false=>rfl
       | true =>
        rw [cond_true,Option.bind_some,Bool.true_and]
        simp only
        rw [if_pos hs,if_pos (vz h4 w)]
theorem ED (a b:ByteArray) (c e:Int) (ts:List GTask) (ht:ts.length≤1050000):∀ (l:List ByteArray) (i:Nat) (z:Bool),ii a b c e ts l i z=some (cond (l.all fun n=>decide (0≤aq ts n)) .x2 (.ret false))
 | [],i,z=>rfl
 | n::l,i,z=>by
  unfold ii
  rw [if_pos (show (GDag.mk a b c e z ts).f5.length≤1050000 from ht),ED a b c e ts ht l (i+1) z,List.all_cons]
  show cond (decide (aq ts n<0)) _ _=_
  by_cases w:aq ts n<0
  ·rw [decide_eq_true w,decide_eq_false (by omega:¬ 0≤aq ts n)];rfl
  ·rw [decide_eq_false w,decide_eq_true (by omega:0≤aq ts n)];rfl
theorem EC (a b:ByteArray) (c e:Int) (ts:List GTask) (hs:ak.sm ts) (h4:ts.length≤4):∀ (l:List GTask) (i:Nat) (z:Bool),(∀ y∈l,ak.sm y)→ig a b c e ts l i z=some (cond (em ts l i) .x0 (.ret false))
 | [],i,z,_=>rfl
 | t::l,i,z,hl=>by
  have ht:=hl t (by simp)
  have hf:t.f4.length≤1050000:=ht.2.2.1
  unfold ig em
  rw [if_pos ht,if_pos (show (GDag.mk a b c e z ts).f5.length≤1050000 from hs.1),if_pos (by omega),ED a b c e ts hs.1,EC a b c e ts hs h4 l (i+1) z (fun y hy=>hl y (by simp [hy])),Em ts h4]
  have e1:(cg (GDag.mk a b c e z ts) t.f0 != (i:Int)) = !(aq ts t.f0==(i:Int)):=rfl
  rw [e1]
  cases oA t<;>cases aq ts t.f0==(i:Int)<;>cases (t.f4.all fun n=>decide (0≤aq ts n))<;>cases em ts l (i+1)<;>rfl
theorem HX (d:GDag) (h:ak.sm d):oM d=some (ky d):=by
 have hs:ak.sm d.f5:=h.2.2
 have hn:d.f0.size≤2000000:=by have:d.f0.size≤1050000:=h.1;omega
 unfold oM ky
 rw [if_pos hn]
 cases dz d.f0 with
 | false=>rfl
 | true =>
  rw [cond_true,Bool.true_and]
  cases ic d.f1 with
  | false=>rfl
  | true =>
   rw [cond_true,Bool.true_and]
   by_cases w0:d.f2<0
   ·have:aG d.f2 0 d.f3=false:=by unfold aG;rw [decide_eq_false (by omega)];rfl
    rw [decide_eq_true w0,this,Bool.false_and,Bool.and_false];rfl
   ·rw [decide_eq_false w0,cond_false]
    by_cases w1:d.f2>d.f3
    ·have:aG d.f2 0 d.f3=false:=by unfold aG;rw [decide_eq_false (by omega:¬ d.f2≤d.f3),Bool.and_false]
     rw [decide_eq_true w1,this,Bool.false_and,Bool.and_false];rfl
    ·rw [decide_eq_false w1,cond_false]
     have e1:aG d.f2 0 d.f3=true:=by unfold aG;rw [decide_eq_true (by omega),decide_eq_true (by omega)];rfl
     by_cases w2:d.f3>68374079
     ·have:aG d.f3 0 68374079=false:=by unfold aG;rw [decide_eq_false (by omega:¬ d.f3≤68374079),Bool.and_false]
      rw [decide_eq_true w2,this,Bool.false_and];rfl
     ·have e2:aG d.f3 0 68374079=true:=by unfold aG;rw [decide_eq_true (by omega),decide_eq_true (by omega)];rfl
      rw [decide_eq_false w2,cond_false,e1,e2,Bool.true_and,Bool.true_and]
      cases q:aG (d.f5.length:Int) 1 4 with
      | false=>rfl
      | true =>
       have h4:d.f5.length≤4:=by unfold aG at q;simp at q;omega
       rw [cond_true,Bool.true_and,if_pos (by omega),EC d.f0 d.f1 d.f2 d.f3 d.f5 hs h4 d.f5 0 d.f4 hs.2]
       cases w:em d.f5 d.f5 0 with
       | false=>rfl
       | true =>
        rw [cond_true,Option.bind_some,Bool.true_and]
        simp only
        rw [if_pos h,if_pos (vz h4 w)]
        rfl
theorem rX {q0:Kd} (x0:GDag) (h:ak.sm x0):Does E 23 [.agg (GDag.t .far q0 x0)] [(false,[tB (ky x0)])]:=by
 exact FB x0 _ (HY x0 h)
theorem xw {q0:Kd} (x0:GDag) (h:ak.sm x0):Does E 27 [.agg (GDag.t .far q0 x0)] [(false,[tB (ky x0)])]:=by
 exact E3 x0 _ (HX x0 h)
end Go.Proofs.YtgaiiephdjllkaaGreatDoor.Am
