/- Plans. -/
import Derived.Test.YtdcbjglpdbcjpaaGreatDoorRules
namespace Go.Proofs.YtdcbjglpdbcjpaaGreatDoor.Am
open Go Go.Proofs Classical
set_option maxRecDepth 100000
set_option linter.unusedVariables false
set_option linter.unusedSimpArgs false
inductive vL where
 | ret (v2:Bool)
 | x0 
def cL (v0:ByteArray) (v3:Int):US:=stL 46 [(0,.one (tS v0)),(3,.one (tI v3))]
def gd (zv2:Bool):US:=stL 46 [(2,.one (tB zv2))]
def nY  : US:=stL 46 []
abbrev fT:US→Exit→US→Prop:=Round E 36 (aw Tryz.f36 0)
def D6 (v0:ByteArray) (v3:Int):vL→Prop
 | .ret zv2=>Loops E 36 (aw Tryz.f36 0) (cL v0 v3) .ret (gd zv2)
 | .x0=>Loops E 36 (aw Tryz.f36 0) (cL v0 v3) (.exit 0) (nY)
noncomputable def eY  : List Int→Nat→Option vL
 | [],i=>some (.x0)
 | hd::rest,i=>cond (decide (hd<(97:Int)))
  (cond (decide (hd<(48:Int)))
   (some (.ret false))
   (cond (decide (hd>(57:Int)))
    (some (.ret false))
    (eY rest (i+1))))
  (cond (decide (hd>(122:Int)))
   (cond (decide (hd<(48:Int)))
    (some (.ret false))
    (cond (decide (hd>(57:Int)))
     (some (.ret false))
     (eY rest (i+1))))
   (eY rest (i+1)))
theorem D5 (v0:ByteArray) (rest:List Int):∀ (i:Nat) ,(bI v0).drop i=rest→v0.size≤9223372036854775807→Ans (eY rest i) (D6 v0 (i:Int)):=by
 induction rest with
 | nil =>
  intro i hE hl
  have hb:=oV hE
  unfold eY
  exact KX (KZ (show fT (cL v0 (i:Int)) (.exit 0) (nY) from RP [.b false] (AC hb<|AN)) (by intro h;cases h))
 | cons hd rest ih =>
  intro i hE hl
  have hb:=nE hE
  have hw:=nF hE hl
  have hE2:=aH hE
  have hp:=qP hE
  obtain rfl:=qO hE
  unfold eY
  apply K0<;>intro h2
  ·apply K0<;>intro h3
   ·exact KX (KZ (show fT (cL v0 (i:Int)) .ret (gd false) from RP [.b true,.b true,.b true] (AC hb<|AC hp<|AC h2<|AC hp<|AC h3<|AN)) (by intro h;cases h))
   ·apply K0<;>intro h4
    ·exact KX (KZ (show fT (cL v0 (i:Int)) .ret (gd false) from RP [.b true,.b true,.b false,.b true] (AC hb<|AC hp<|AC h2<|AC hp<|AC h3<|AC hp<|AC h4<|AN)) (by intro h;cases h))
    ·exact (ih (i+1) hE2 hl).mono fun y hy=>by have r:fT (cL v0 (i:Int)) .normal (cL v0 (inc (i:Int))):=RP [.b true,.b true,.b false,.b false] (AC hb<|AC hp<|AC h2<|AC hp<|AC h3<|AC hp<|AC h4<|AN);rw [hw] at r;cases y<;>exact KY r hy
  ·apply K0<;>intro h3
   ·apply K0<;>intro h4
    ·exact KX (KZ (show fT (cL v0 (i:Int)) .ret (gd false) from RP [.b true,.b false,.b true,.b true] (AC hb<|AC hp<|AC h2<|AC hp<|AC h3<|AC hp<|AC h4<|AN)) (by intro h;cases h))
    ·apply K0<;>intro h5
     ·exact KX (KZ (show fT (cL v0 (i:Int)) .ret (gd false) from RP [.b true,.b false,.b true,.b false,.b true] (AC hb<|AC hp<|AC h2<|AC hp<|AC h3<|AC hp<|AC h4<|AC hp<|AC h5<|AN)) (by intro h;cases h))
     ·exact (ih (i+1) hE2 hl).mono fun y hy=>by have r:fT (cL v0 (i:Int)) .normal (cL v0 (inc (i:Int))):=RP [.b true,.b false,.b true,.b false,.b false] (AC hb<|AC hp<|AC h2<|AC hp<|AC h3<|AC hp<|AC h4<|AC hp<|AC h5<|AN);rw [hw] at r;cases y<;>exact KY r hy
   ·exact (ih (i+1) hE2 hl).mono fun y hy=>by have r:fT (cL v0 (i:Int)) .normal (cL v0 (inc (i:Int))):=RP [.b true,.b false,.b false] (AC hb<|AC hp<|AC h2<|AC hp<|AC h3<|AN);rw [hw] at r;cases y<;>exact KY r hy
noncomputable def oA (x0:ByteArray):Option (Bool) :=
  cond (aM (x0.size:Int) (1:Int) (8:Int))
   (if 0≤(0:Int)∧(0:Int)<(x0.size:Int) then cond (decide ((fJ x0 (0:Int))<(97:Int)))
    (some (false))
    (cond (decide ((fJ x0 (0:Int))>(122:Int)))
     (some (false))
     (if x0.size≤9223372036854775807 then (eY (bI x0) 0).bind fun y=>match y with
      | .ret w0_2=>(some (w0_2))
      | .x0=>(some (true)) else none)) else none)
   (some (false))
theorem FY (x0:ByteArray):Ans (oA x0) (fun r=>Does E 36 [.one (tS x0)] [(false,[tB r])]):=by
 unfold oA
 apply K0<;>intro h0
 ·refine K2 (fun h1 => ?_)
  apply K0<;>intro h2
  ·exact KX (DP Tryz.f36 [rT,.b true] (AD (K5 (bz (x0.size:Int) (1:Int) (8:Int)) h0)<|AC h1<|AC h2<|AN))
  ·apply K0<;>intro h3
   ·exact KX (DP Tryz.f36 [rT,.b false,.b true] (AD (K5 (bz (x0.size:Int) (1:Int) (8:Int)) h0)<|AC h1<|AC h2<|AC h1<|AC h3<|AN))
   ·refine K2 (fun hl4 => ?_)
    refine K1 (fun y hy => ?_)
    replace hy:=D5 x0 (bI x0) 0 rfl hl4 y hy
    cases y with
    | ret w0_2 =>
     have h4:=hy
     exact KX (DP Tryz.f36 [rT,.b false,.b false,.lp .ret (gd w0_2)] (AD (K5 (bz (x0.size:Int) (1:Int) (8:Int)) h0)<|AC h1<|AC h2<|AC h1<|AC h3<|AL h4<|AN))
    | x0 =>
     have h4:=hy
     exact KX (DP Tryz.f36 [rT,.b false,.b false,.lp (.exit 0) (nY)] (AD (K5 (bz (x0.size:Int) (1:Int) (8:Int)) h0)<|AC h1<|AC h2<|AC h1<|AC h3<|AL h4<|AN))
 ·exact KX (DP Tryz.f36 [rF] (AD (K5 (bz (x0.size:Int) (1:Int) (8:Int)) h0)<|AN))
inductive vw where
 | ret (v2:Bool)
 | x0 
def ca (v0:ByteArray) (v3:Int):US:=stL 42 [(0,.one (tS v0)),(3,.one (tI v3))]
def dZ (zv2:Bool):US:=stL 42 [(2,.one (tB zv2))]
def nO (v0:ByteArray):US:=stL 42 [(0,.one (tS v0))]
abbrev eg:US→Exit→US→Prop:=Round E 45 (aw Tryz.f45 0)
def DA (v0:ByteArray) (v3:Int):vw→Prop
 | .ret zv2=>Loops E 45 (aw Tryz.f45 0) (ca v0 v3) .ret (dZ zv2)
 | .x0=>Loops E 45 (aw Tryz.f45 0) (ca v0 v3) (.exit 0) (nO v0)
noncomputable def eh  : List Int→Nat→Option vw
 | [],i=>some (.x0)
 | hd::rest,i=>cond (decide (hd≥(97:Int)))
  (cond (decide (hd≤(122:Int)))
   (eh rest (i+1))
   (cond ((i:Int)==(0:Int))
    (some (.ret false))
    (cond (decide (hd<(48:Int)))
     (some (.ret false))
     (cond (decide (hd>(57:Int)))
      (some (.ret false))
      (eh rest (i+1))))))
  (cond ((i:Int)==(0:Int))
   (some (.ret false))
   (cond (decide (hd<(48:Int)))
    (some (.ret false))
    (cond (decide (hd>(57:Int)))
     (some (.ret false))
     (eh rest (i+1)))))
theorem Dz (v0:ByteArray) (rest:List Int):∀ (i:Nat) ,(bI v0).drop i=rest→v0.size≤9223372036854775807→Ans (eh rest i) (DA v0 (i:Int)):=by
 induction rest with
 | nil =>
  intro i hE hl
  have hb:=oV hE
  unfold eh
  exact KX (KZ (show eg (ca v0 (i:Int)) (.exit 0) (nO v0) from RP [.b false] (AC hb<|AN)) (by intro h;cases h))
 | cons hd rest ih =>
  intro i hE hl
  have hb:=nE hE
  have hw:=nF hE hl
  have hE2:=aH hE
  have hp:=qP hE
  obtain rfl:=qO hE
  unfold eh
  apply K0<;>intro h2
  ·apply K0<;>intro h3
   ·exact (ih (i+1) hE2 hl).mono fun y hy=>by have r:eg (ca v0 (i:Int)) .normal (ca v0 (inc (i:Int))):=RP [.b true,.b true,.b true] (AC hb<|AC hp<|AC h2<|AC hp<|AC h3<|AN);rw [hw] at r;cases y<;>exact KY r hy
   ·apply K0<;>intro h4
    ·exact KX (KZ (show eg (ca v0 (i:Int)) .ret (dZ false) from RP [.b true,.b true,.b false,.b true] (AC hb<|AC hp<|AC h2<|AC hp<|AC h3<|AC h4<|AN)) (by intro h;cases h))
    ·apply K0<;>intro h5
     ·exact KX (KZ (show eg (ca v0 (i:Int)) .ret (dZ false) from RP [.b true,.b true,.b false,.b false,.b true] (AC hb<|AC hp<|AC h2<|AC hp<|AC h3<|AC h4<|AC hp<|AC h5<|AN)) (by intro h;cases h))
     ·apply K0<;>intro h6
      ·exact KX (KZ (show eg (ca v0 (i:Int)) .ret (dZ false) from RP [.b true,.b true,.b false,.b false,.b false,.b true] (AC hb<|AC hp<|AC h2<|AC hp<|AC h3<|AC h4<|AC hp<|AC h5<|AC hp<|AC h6<|AN)) (by intro h;cases h))
      ·exact (ih (i+1) hE2 hl).mono fun y hy=>by have r:eg (ca v0 (i:Int)) .normal (ca v0 (inc (i:Int))):=RP [.b true,.b true,.b false,.b false,.b false,.b false] (AC hb<|AC hp<|AC h2<|AC hp<|AC h3<|AC h4<|AC hp<|AC h5<|AC hp<|AC h6<|AN);rw [hw] at r;cases y<;>exact KY r hy
  ·apply K0<;>intro h3
   ·exact KX (KZ (show eg (ca v0 (i:Int)) .ret (dZ false) from RP [.b true,.b false,.b true] (AC hb<|AC hp<|AC h2<|AC h3<|AN)) (by intro h;cases h))
   ·apply K0<;>intro h4
    ·exact KX (KZ (show eg (ca v0 (i:Int)) .ret (dZ false) from RP [.b true,.b false,.b false,.b true] (AC hb<|AC hp<|AC h2<|AC h3<|AC hp<|AC h4<|AN)) (by intro h;cases h))
    ·apply K0<;>intro h5
     ·exact KX (KZ (show eg (ca v0 (i:Int)) .ret (dZ false) from RP [.b true,.b false,.b false,.b false,.b true] (AC hb<|AC hp<|AC h2<|AC h3<|AC hp<|AC h4<|AC hp<|AC h5<|AN)) (by intro h;cases h))
     ·exact (ih (i+1) hE2 hl).mono fun y hy=>by have r:eg (ca v0 (i:Int)) .normal (ca v0 (inc (i:Int))):=RP [.b true,.b false,.b false,.b false,.b false] (AC hb<|AC hp<|AC h2<|AC h3<|AC hp<|AC h4<|AC hp<|AC h5<|AN);rw [hw] at r;cases y<;>exact KY r hy
noncomputable def oq (x0:ByteArray):Option (Bool) :=
  if x0.size≤9223372036854775807 then (eh (bI x0) 0).bind fun y=>match y with
   | .ret w0_2=>(some (w0_2))
   | .x0=>(some (aM (x0.size:Int) (1:Int) (8:Int))) else none
theorem Fy (x0:ByteArray):Ans (oq x0) (fun r=>Does E 45 [.one (tS x0)] [(false,[tB r])]):=by
 unfold oq
 refine K2 (fun hl1 => ?_)
 refine K1 (fun y hy => ?_)
 replace hy:=Dz x0 (bI x0) 0 rfl hl1 y hy
 cases y with
 | ret w0_2 =>
  have h0:=hy
  exact KX (DP Tryz.f45 [.lp .ret (dZ w0_2)] (AL h0<|AN))
 | x0 =>
  have h0:=hy
  exact KX (DP Tryz.f45 [.lp (.exit 0) (nO x0),.ret [(false,[tB (aM (x0.size:Int) (1:Int) (8:Int))])]] (AL h0<|AD (de (x0.size:Int) (1:Int) (8:Int))<|AN))
def qq (h:Int):Bool:=decide (97≤h∧h≤122)
def lfI (h:Int):Bool:=decide (97≤h∧h≤122∨48≤h∧h≤57)
def IF:List Int→Bool
 | []=>true
 | h::l=>qq h&&l.all lfI
def dM (s:ByteArray):Bool:=aM (s.size:Int) 1 8&&IF (bI s)
theorem JC {α:Type} (h:Int) (A B:α):cond (decide (h<97)) (cond (decide (h<48)) A (cond (decide (h>57)) A B)) (cond (decide (h>122)) (cond (decide (h<48)) A (cond (decide (h>57)) A B)) B)=cond (lfI h) B A:=by
 unfold lfI
 simp only [Bool.cond_decide]
 repeat' split
 all_goals first | rfl | (exfalso;omega)
theorem Jb {α:Type} (h:Int) (A B:α):cond (decide (h≥97)) (cond (decide (h≤122)) B (cond (decide (h<48)) A (cond (decide (h>57)) A B))) (cond (decide (h<48)) A (cond (decide (h>57)) A B))=cond (lfI h) B A:=by
 unfold lfI
 simp only [Bool.cond_decide]
 repeat' split
 all_goals first | rfl | (exfalso;omega)
theorem Ja {α:Type} (h:Int) (A B:α):cond (decide (h≥97)) (cond (decide (h≤122)) B A) A=cond (qq h) B A:=by
 unfold qq
 simp only [Bool.cond_decide]
 repeat' split
 all_goals first | rfl | (exfalso;omega)
theorem JB {h:Int} (q:qq h=true):lfI h=true:=by
 unfold qq at q
 unfold lfI
 simp only [decide_eq_true_eq] at q ⊢
 exact .inl q
theorem EF:∀ (l:List Int) (i:Nat),eY l i=some (cond (l.all lfI) .x0 (.ret false))
 | [],i=>rfl
 | h::l,i=>by
  unfold eY
  rw [EF l (i+1),List.all_cons,JC]
  cases lfI h<;>rfl
theorem EE:∀ (l:List Int) (i:Nat),eh l (i+1)=some (cond (l.all lfI) .x0 (.ret false))
 | [],i=>rfl
 | h::l,i=>by
  unfold eh
  have e:(((i+1:Nat):Int)==0)=false:=by rw [beq_eq_false_iff_ne];omega
  rw [EE l (i+1),List.all_cons,e]
  simp only [cond_false]
  rw [Jb]
  cases lfI h<;>rfl
theorem JG (s:ByteArray) (hs:s.size≤2000000):oA s=some (dM s):=by
 unfold oA dM
 cases q:aM (s.size:Int) 1 8 with
 | false=>rfl
 | true =>
  have hr:1≤(s.size:Int)∧(s.size:Int)≤8:=by unfold aM at q;simpa using q
  rw [cond_true,if_pos (by omega),if_pos (by omega),Bool.true_and,EF]
  have h0:=qy s 0 (by omega)
  cases e:bI s with
  | nil=>rw [e] at h0;cases h0
  | cons h l =>
   rw [e] at h0
   have hb:h=fJ s (0:Int):=Option.some.inj h0
   rw [← hb]
   show _=some (qq h&&l.all lfI)
   rw [List.all_cons]
   have k:∀ (X:Option Bool),cond (decide (h<97)) (some false) (cond (decide (h>122)) (some false) X)=cond (qq h) X (some false):=fun X=>by
    unfold qq
    simp only [Bool.cond_decide]
    repeat' split
    all_goals first | rfl | (exfalso;omega)
   rw [k]
   cases q2:qq h with
   | false=>rfl
   | true =>
    rw [JB q2]
    cases l.all lfI<;>rfl
theorem JF (s:ByteArray) (hs:s.size≤2000000):oq s=some (dM s):=by
 unfold oq dM
 rw [if_pos (by omega)]
 cases e:bI s with
 | nil =>
  show some (aM (s.size:Int) 1 8)=some (aM (s.size:Int) 1 8&&true)
  rw [Bool.and_true]
 | cons h l =>
  unfold eh IF
  have e0:(((0:Nat):Int)==0)=true:=rfl
  rw [EE l 0,e0]
  simp only [cond_true]
  rw [Ja]
  cases qq h with
  | false=>rw [Bool.false_and,Bool.and_false];rfl
  | true =>
   rw [cond_true,Bool.true_and,Option.bind_some]
   cases l.all lfI with
   | false=>rw [Bool.and_false];rfl
   | true=>rw [Bool.and_true];rfl
theorem cw (x0:ByteArray) (h:x0.size≤2000000):Does E 36 [.one (tS x0)] [(false,[tB (dM x0)])]:=by
 exact FY x0 _ (JG x0 h)
theorem cR (x0:ByteArray) (h:x0.size≤2000000):Does E 45 [.one (tS x0)] [(false,[tB (dM x0)])]:=by
 exact Fy x0 _ (JF x0 h)
noncomputable def jY (x0:ByteArray):Option (Int) :=
  cond (x0.toList==(⟨#[111,110,101]⟩:ByteArray).toList)
   (some ((1:Int)))
   (cond (x0.toList==(⟨#[116,119,111]⟩:ByteArray).toList)
    (some ((2:Int)))
    (cond (x0.toList==(⟨#[119,105,100,101]⟩:ByteArray).toList)
     (some ((4:Int)))
     (some ((0:Int)))))
theorem CC (x0:ByteArray):Ans (jY x0) (fun r=>Does E 62 [.one (tS x0)] [(false,[tI r])]):=by
 unfold jY
 apply K0<;>intro h0
 ·exact KX (DP Tryz.f62 [.b true] (AC h0<|AN))
 ·apply K0<;>intro h1
  ·exact KX (DP Tryz.f62 [.b false,.b true] (AC h0<|AC h1<|AN))
  ·apply K0<;>intro h2
   ·exact KX (DP Tryz.f62 [.b false,.b false,.b true] (AC h0<|AC h1<|AC h2<|AN))
   ·exact KX (DP Tryz.f62 [.b false,.b false,.b false] (AC h0<|AC h1<|AC h2<|AN))
noncomputable def uc (x0:ByteArray):Option (Int) :=
  cond (x0.toList==(⟨#[111,110,101]⟩:ByteArray).toList)
   (some ((1:Int)))
   (cond (x0.toList==(⟨#[116,119,111]⟩:ByteArray).toList)
    (some ((2:Int)))
    (cond (x0.toList==(⟨#[119,105,100,101]⟩:ByteArray).toList)
     (some ((4:Int)))
     (some ((0:Int)))))
theorem BL (x0:ByteArray):Ans (uc x0) (fun r=>Does E 66 [.one (tS x0)] [(false,[tI r])]):=by
 unfold uc
 apply K0<;>intro h0
 ·exact KX (DP Tryz.f66 [.b true] (AC h0<|AN))
 ·apply K0<;>intro h1
  ·exact KX (DP Tryz.f66 [.b false,.b true] (AC h0<|AC h1<|AN))
  ·apply K0<;>intro h2
   ·exact KX (DP Tryz.f66 [.b false,.b false,.b true] (AC h0<|AC h1<|AC h2<|AN))
   ·exact KX (DP Tryz.f66 [.b false,.b false,.b false] (AC h0<|AC h1<|AC h2<|AN))
noncomputable def bK (s:ByteArray):Int:=(jY s).getD 0
theorem Co (s:ByteArray):jY s=some (bK s):=by
 refine Tot.getD ?_ _
 unfold jY
 repeat' (first | exact Tot.some _ | apply Tot.cond)
theorem l3 (x0:ByteArray):Does E 62 [.one (tS x0)] [(false,[tI (bK x0)])]:=by
 exact CC x0 _ (Co x0)
theorem jH (x0:ByteArray):Does E 66 [.one (tS x0)] [(false,[tI (bK x0)])]:=by
 exact BL x0 _ (Co x0)
inductive xK where
 | ret (v4:Int)
 | x0 
def kB (q0:Kd) (v0:List GTask) (v1:ByteArray) (v5:Int):US:=stL 20 [(0,.one (.s .far () 5 (v0.map (GTask.t q0)))),(1,.one (tS v1)),(5,.one (tI v5))]
def oc (q0:Kd) (zv4:Int):US:=stL 20 [(4,.one (tI zv4))]
def pr (q0:Kd)  : US:=stL 20 []
abbrev sv:US→Exit→US→Prop:=Round E 40 (aw Tryz.f40 0)
def F2 {q0:Kd} (v0:List GTask) (v1:ByteArray) (v5:Int):xK→Prop
 | .ret zv4=>Loops E 40 (aw Tryz.f40 0) (kB q0 v0 v1 v5) .ret (oc q0 zv4)
 | .x0=>Loops E 40 (aw Tryz.f40 0) (kB q0 v0 v1 v5) (.exit 0) (pr q0)
noncomputable def iZ (v1:ByteArray):List GTask→Nat→Option xK
 | [],i=>some (.x0)
 | hd::rest,i=>cond (hd.f0.toList==v1.toList)
  (some (.ret (i:Int)))
  (iZ v1 rest (i+1))
theorem F1 {q0:Kd} (v0:List GTask) (v1:ByteArray) (rest:List GTask):∀ (i:Nat) ,(v0).drop i=rest→v0.length≤9223372036854775807→Ans (iZ v1 rest i) (F2 (q0:=q0) v0 v1 (i:Int)):=by
 induction rest with
 | nil =>
  intro i hE hl
  have hb:=bo hE
  unfold iZ
  exact KX (KZ (show sv (kB q0 v0 v1 (i:Int)) (.exit 0) (pr q0) from RP [.val (.int .i64 (v0.length:Int)),.b false] (ALn v0 (GTask.t q0)<|AC hb<|AN)) (by intro h;cases h))
 | cons hd rest ih =>
  intro i hE hl
  have hb:=aY hE
  have hw:=aZ hE hl
  have hE2:=aH hE
  have hg:=bc hE
  unfold iZ
  apply K0<;>intro h2
  ·exact KX (KZ (show sv (kB q0 v0 v1 (i:Int)) .ret (oc q0 (i:Int)) from RP [.val (.int .i64 (v0.length:Int)),.b true,.row ((GTask.t q0) hd),.b true] (ALn v0 (GTask.t q0)<|AC hb<|AR (GTask.t q0) hg<|AC h2<|AN)) (by intro h;cases h))
  ·exact (ih (i+1) hE2 hl).mono fun y hy=>by have r:sv (kB q0 v0 v1 (i:Int)) .normal (kB q0 v0 v1 (inc (i:Int))):=RP [.val (.int .i64 (v0.length:Int)),.b true,.row ((GTask.t q0) hd),.b false] (ALn v0 (GTask.t q0)<|AC hb<|AR (GTask.t q0) hg<|AC h2<|AN);rw [hw] at r;cases y<;>exact KY r hy
noncomputable def uN (x0:List GTask) (x1:ByteArray):Option (Int) :=
  if x0.length≤9223372036854775807 then (iZ x1 x0 0).bind fun y=>match y with
   | .ret w0_4=>(some (w0_4))
   | .x0=>(some ((-1:Int))) else none
theorem Hr {q0:Kd} (x0:List GTask) (x1:ByteArray):Ans (uN x0 x1) (fun r=>Does E 40 [.one (.s .far () 5 (x0.map (GTask.t q0))),.one (tS x1)] [(false,[tI r])]):=by
 unfold uN
 refine K2 (fun hl1 => ?_)
 refine K1 (fun y hy => ?_)
 replace hy:=F1 (q0:=q0) x0 x1 x0 0 rfl hl1 y hy
 cases y with
 | ret w0_4 =>
  have h0:=hy
  exact KX (DP Tryz.f40 [.lp .ret (oc q0 w0_4)] (AL h0<|AN))
 | x0 =>
  have h0:=hy
  exact KX (DP Tryz.f40 [.lp (.exit 0) (pr q0)] (AL h0<|AN))
noncomputable def uf (x0:GTask) (y0:ByteArray):Option (Bool) :=
  some (x0.f0.toList==y0.toList)
theorem BM (x0:GTask) (y0:ByteArray):Ans (uf x0 y0) (fun r=>Does E 68 [.agg (GTask.t .far x0),.im .far () [tS y0] 0] [(false,[tB r])]):=by
 unfold uf
 exact KX (DP Tryz.f68 [] AN)
def iD (x:GTask) (n:ByteArray):Bool:=x.f0.toList==n.toList
def l5 (n:ByteArray):List GTask→Nat→Int
 | [],_ => -1
 | t::r,i=>cond (iD t n) (i:Int) (l5 n r (i+1))
def ao (ts:List GTask) (n:ByteArray):Int:=l5 n ts 0
theorem l6 (n:ByteArray):∀ (l:List GTask) (i:Nat),(l5 n l i = -1∧∀ t∈l,iD t n=false)∨∃ (k:Nat) (t:GTask),l5 n l i=((i+k:Nat):Int)∧l[k]?=some t∧iD t n=true
 | [],i => .inl ⟨rfl,fun t ht=>by cases ht⟩
 | t::l,i=>by
  unfold l5
  cases q:iD t n with
  | true=>exact .inr ⟨0,t,rfl,rfl,q⟩
  | false =>
   rw [cond_false]
   rcases l6 n l (i+1) with ⟨h,h'⟩ | ⟨k,u,h1,h2,h3⟩
   ·exact .inl ⟨h,fun u hu=>by rcases List.mem_cons.1 hu with rfl | hu;exact q;exact h' u hu⟩
   ·exact .inr ⟨k+1,u,by rw [h1];omega,h2,h3⟩
theorem F8 (ts:List GTask) (n:ByteArray) : -1≤ao ts n∧ao ts n<(ts.length:Int):=by
 unfold ao
 rcases l6 n ts 0 with ⟨h,_⟩ | ⟨k,t,h1,h2,_⟩
 ·rw [h];omega
 ·have:k<ts.length:=by
   rcases Nat.lt_or_ge k ts.length with g | g
   ·exact g
   ·rw [List.getElem?_eq_none g] at h2;cases h2
  rw [h1];omega
theorem Ek {ts:List GTask} {n:ByteArray} (h:0≤ao ts n):∃ t∈ts,tx t.f0=tx n:=by
 unfold ao at h
 rcases l6 n ts 0 with ⟨h',_⟩ | ⟨k,t,h1,h2,h3⟩
 ·rw [h'] at h;omega
 ·unfold iD at h3
  rw [jb,decide_eq_true_eq] at h3
  exact ⟨t,List.mem_of_getElem? h2,h3⟩
theorem Js (n:ByteArray):∀ (l:List GTask) (i:Nat),(iZ n l i).bind (fun y=>match y with
   | .ret w0_4=>(some (w0_4))
   | .x0=>(some ((-1:Int))))=some (l5 n l i)
 | [],i=>rfl
 | t::l,i=>by
  unfold iZ l5
  have e:(t.f0.toList==n.toList)=iD t n:=rfl
  rw [e]
  cases iD t n with
  | true=>rfl
  | false=>exact Js n l (i+1)
theorem tv (x0:GTask) (y0:ByteArray):Does E 68 [.agg (GTask.t .far x0),.im .far () [tS y0] 0] [(false,[tB (iD x0 y0)])]:=by
 exact BM x0 y0 _ rfl
theorem e8 {q0:Kd} (x0:List GTask) (x1:ByteArray) (h:x0.length≤1050000):Does E 40 [.one (.s .far () 5 (x0.map (GTask.t q0))),.one (tS x1)] [(false,[tI (ao x0 x1)])]:=by
 exact Hr x0 x1 _ (by unfold uN;rw [if_pos (by omega)];exact Js x1 x0 0)
inductive fx where
 | ret (v4:Int)
 | x0 
def bp (q0:Kd) (v0:List GTask) (v1_0_0:ByteArray) (v7 v8:Int):US:=stL 19 [(0,.one (.s .far () 5 (v0.map (GTask.t q0)))),(1,.fni 68 [((),[tS v1_0_0])]),(7,.one (tI v7)),(8,.one (tI v8))]
def cP (q0:Kd) (zv4:Int):US:=stL 19 [(4,.one (tI zv4))]
def cV (q0:Kd)  : US:=stL 19 []
abbrev dq:US→Exit→US→Prop:=Round E 67 (aw Tryz.f67 0)
def kF {q0:Kd} (v0:List GTask) (v1_0_0:ByteArray) (v7 v8:Int):fx→Prop
 | .ret zv4=>Loops E 67 (aw Tryz.f67 0) (bp q0 v0 v1_0_0 v7 v8) .ret (cP q0 zv4)
 | .x0=>Loops E 67 (aw Tryz.f67 0) (bp q0 v0 v1_0_0 v7 v8) (.exit 0) (cV q0)
noncomputable def a8 (v1_0_0:ByteArray):List GTask→Nat→Option fx
 | [],i=>some (.x0)
 | hd::rest,i=>cond (iD hd v1_0_0)
  (some (.ret (i:Int)))
  (a8 v1_0_0 rest (i+1))
theorem kE {q0:Kd} (v0:List GTask) (v1_0_0:ByteArray) (rest:List GTask):∀ (i:Nat) ,(v0).drop i=rest→v0.length≤9223372036854775807→Ans (a8 v1_0_0 rest i) (kF (q0:=q0) v0 v1_0_0 (v0.length:Int) (i:Int)):=by
 induction rest with
 | nil =>
  intro i hE hl
  have hb:=bo hE
  unfold a8
  exact KX (KZ (show dq (bp q0 v0 v1_0_0 (v0.length:Int) (i:Int)) (.exit 0) (cV q0) from RP [.b false] (AC hb<|AN)) (by intro h;cases h))
 | cons hd rest ih =>
  intro i hE hl
  have hb:=aY hE
  have hw:=aZ hE hl
  have hE2:=aH hE
  have hg:=bc hE
  unfold a8
  apply K0<;>intro h2
  ·exact KX (KZ (show dq (bp q0 v0 v1_0_0 (v0.length:Int) (i:Int)) .ret (cP q0 (i:Int)) from RP [.b true,.row ((GTask.t q0) hd),rT] (AC hb<|AR (GTask.t q0) hg<|AD (K5 (tv hd v1_0_0) h2)<|AN)) (by intro h;cases h))
  ·exact (ih (i+1) hE2 hl).mono fun y hy=>by have r:dq (bp q0 v0 v1_0_0 (v0.length:Int) (i:Int)) .normal (bp q0 v0 v1_0_0 (v0.length:Int) (inc (i:Int))):=RP [.b true,.row ((GTask.t q0) hd),rF] (AC hb<|AR (GTask.t q0) hg<|AD (K5 (tv hd v1_0_0) h2)<|AN);rw [hw] at r;cases y<;>exact KY r hy
noncomputable def dy (x0:List GTask) (c1_0:ByteArray):Option (Int) :=
  if x0.length≤9223372036854775807 then (a8 c1_0 x0 0).bind fun y=>match y with
   | .ret w0_4=>(some (w0_4))
   | .x0=>(some ((-1:Int))) else none
theorem kR {q0:Kd} (x0:List GTask) (c1_0:ByteArray):Ans (dy x0 c1_0) (fun r=>Does E 67 [.one (.s .far () 5 (x0.map (GTask.t q0))),.fni 68 [((),[tS c1_0])]] [(false,[tI r])]):=by
 unfold dy
 refine K2 (fun hl1 => ?_)
 refine K1 (fun y hy => ?_)
 replace hy:=kE (q0:=q0) x0 c1_0 x0 0 rfl hl1 y hy
 cases y with
 | ret w0_4 =>
  have h0:=hy
  exact KX (DP Tryz.f67 [.val (.int .i64 (x0.length:Int)),.lp .ret (cP q0 w0_4)] (ALn x0 (GTask.t q0)<|AL h0<|AN))
 | x0 =>
  have h0:=hy
  exact KX (DP Tryz.f67 [.val (.int .i64 (x0.length:Int)),.lp (.exit 0) (cV q0)] (ALn x0 (GTask.t q0)<|AL h0<|AN))
theorem Jr (n:ByteArray):∀ (l:List GTask) (i:Nat),(a8 n l i).bind (fun y=>match y with
   | .ret w0_4=>(some (w0_4))
   | .x0=>(some ((-1:Int))))=some (l5 n l i)
 | [],i=>rfl
 | t::l,i=>by
  unfold a8 l5
  cases iD t n with
  | true=>rfl
  | false=>exact Jr n l (i+1)
theorem kI {q0:Kd} (x0:List GTask) (c1_0:ByteArray) (h:x0.length≤1050000):Does E 67 [.one (.s .far () 5 (x0.map (GTask.t q0))),.fni 68 [((),[tS c1_0])]] [(false,[tI (ao x0 c1_0)])]:=by
 exact kR x0 c1_0 _ (by unfold dy;rw [if_pos (by omega)];exact Jr c1_0 x0 0)
noncomputable def rU (x0:GDag) (x1:ByteArray):Option (Int) :=
  if x0.f5.length≤1050000 then some (ao x0.f5 x1) else none
theorem Fz {q0:Kd} (x0:GDag) (x1:ByteArray):Ans (rU x0 x1) (fun r=>Does E 49 [.agg (GDag.t .far q0 x0),.one (tS x1)] [(false,[tI r])]):=by
 unfold rU
 refine K2 (fun h0 => ?_)
 exact KX (DP Tryz.f49 [.ret [(false,[tI (ao x0.f5 x1)])]] (AV (ψ:=fun k=>E.C k 67 [.one (.s .far () 5 (x0.f5.map (GTask.t q0))),.fni 68 [((),[tS x1])]]=some [(false,[tI (ao x0.f5 x1)])]) (kI x0.f5 x1 h0)<|AN))
def bw (d:GDag) (n:ByteArray):Int:=ao d.f5 n
theorem eT {q0:Kd} (x0:GDag) (x1:ByteArray) (h:x0.f5.length≤1050000):Does E 49 [.agg (GDag.t .far q0 x0),.one (tS x1)] [(false,[tI (bw x0 x1)])]:=by
 exact Fz x0 x1 _ (by unfold rU;rw [if_pos h];rfl)
end Go.Proofs.YtdcbjglpdbcjpaaGreatDoor.Am
namespace Go.Proofs.YtdcbjglpdbcjpaaGreatDoor.Am
open Go Go.Proofs Classical
set_option maxRecDepth 100000
set_option linter.unusedVariables false
set_option linter.unusedSimpArgs false
inductive pM where
 | ret (v6:Bool)
 | x0 
def fq (q0:Kd) (v0_0 v0_1:ByteArray) (v0_2 v0_3:Int) (v0_4:Bool) (v0_5:List GTask) (v2:List Int) (v10:List ByteArray) (v11 v12:Int):US:=stL 25 [(0,.im .far () [tS v0_0,tS v0_1,tI v0_2,tI v0_3,tB v0_4,.s .far () 5 (v0_5.map (GTask.t q0))] 0),(2,.one (.s .far () 1 (v2.map etI))),(10,.one (.s .far () 1 (v10.map etS))),(11,.one (tI v11)),(12,.one (tI v12))]
def jQ (q0:Kd) (zv6:Bool):US:=stL 25 [(6,.one (tB zv6))]
def kJ (q0:Kd)  : US:=stL 25 []
abbrev mh:US→Exit→US→Prop:=Round E 71 (aw Tryz.f71 0)
def xh {q0:Kd} (v0_0 v0_1:ByteArray) (v0_2 v0_3:Int) (v0_4:Bool) (v0_5:List GTask) (v2:List Int) (v10:List ByteArray) (v11 v12:Int):pM→Prop
 | .ret zv6=>Loops E 71 (aw Tryz.f71 0) (fq q0 v0_0 v0_1 v0_2 v0_3 v0_4 v0_5 v2 v10 v11 v12) .ret (jQ q0 zv6)
 | .x0=>Loops E 71 (aw Tryz.f71 0) (fq q0 v0_0 v0_1 v0_2 v0_3 v0_4 v0_5 v2 v10 v11 v12) (.exit 0) (kJ q0)
noncomputable def ew (v0_0 v0_1:ByteArray) (v0_2 v0_3:Int) (v0_5:List GTask) (v2:List Int):List ByteArray→Nat→Bool→Option pM
 | [],i,v0_4=>some (.x0)
 | hd::rest,i,v0_4=>if (GDag.mk v0_0 v0_1 v0_2 v0_3 v0_4 v0_5).f5.length≤1050000 then if v2.length≤1050000 then cond (cq v2 (bw (GDag.mk v0_0 v0_1 v0_2 v0_3 v0_4 v0_5) hd))
  (ew v0_0 v0_1 v0_2 v0_3 v0_5 v2 rest (i+1) v0_4)
  (some (.ret false)) else none else none
theorem xg {q0:Kd} (v0_0 v0_1:ByteArray) (v0_2 v0_3:Int) (v0_5:List GTask) (v2:List Int) (v10:List ByteArray) (rest:List ByteArray):∀ (i:Nat) (v0_4:Bool),(v10).drop i=rest→v10.length≤9223372036854775807→Ans (ew v0_0 v0_1 v0_2 v0_3 v0_5 v2 rest i v0_4) (xh (q0:=q0) v0_0 v0_1 v0_2 v0_3 v0_4 v0_5 v2 v10 (v10.length:Int) (i:Int)):=by
 induction rest with
 | nil =>
  intro i v0_4 hE hl
  have hb:=bo hE
  unfold ew
  exact KX (KZ (show mh (fq q0 v0_0 v0_1 v0_2 v0_3 v0_4 v0_5 v2 v10 (v10.length:Int) (i:Int)) (.exit 0) (kJ q0) from RP [.b false] (AC hb<|AN)) (by intro h;cases h))
 | cons hd rest ih =>
  intro i v0_4 hE hl
  have hb:=aY hE
  have hw:=aZ hE hl
  have hE2:=aH hE
  have hg:=bc hE
  unfold ew
  refine K2 (fun h2 => ?_)
  refine K2 (fun h3 => ?_)
  apply K0<;>intro h4
  ·exact (ih (i+1) v0_4 hE2 hl).mono fun y hy=>by have r:mh (fq q0 v0_0 v0_1 v0_2 v0_3 v0_4 v0_5 v2 v10 (v10.length:Int) (i:Int)) .normal (fq q0 v0_0 v0_1 v0_2 v0_3 v0_4 v0_5 v2 v10 (v10.length:Int) (inc (i:Int))):=RP [.b true,.row (etS hd),.ret [(false,[tI (bw (GDag.mk v0_0 v0_1 v0_2 v0_3 v0_4 v0_5) hd)])],rT] (AC hb<|AR etS hg<|AV (ψ:=fun k=>E.C k 49 [.agg (GDag.t .far q0 (GDag.mk v0_0 v0_1 v0_2 v0_3 v0_4 v0_5)),.one (tS hd)]=some [(false,[tI (bw (GDag.mk v0_0 v0_1 v0_2 v0_3 v0_4 v0_5) hd)])]) (eT (GDag.mk v0_0 v0_1 v0_2 v0_3 v0_4 v0_5) hd h2)<|AD (K5 (fk v2 (bw (GDag.mk v0_0 v0_1 v0_2 v0_3 v0_4 v0_5) hd) h3) h4)<|AN);rw [hw] at r;cases y<;>exact KY r hy
  ·exact KX (KZ (show mh (fq q0 v0_0 v0_1 v0_2 v0_3 v0_4 v0_5 v2 v10 (v10.length:Int) (i:Int)) .ret (jQ q0 false) from RP [.b true,.row (etS hd),.ret [(false,[tI (bw (GDag.mk v0_0 v0_1 v0_2 v0_3 v0_4 v0_5) hd)])],rF] (AC hb<|AR etS hg<|AV (ψ:=fun k=>E.C k 49 [.agg (GDag.t .far q0 (GDag.mk v0_0 v0_1 v0_2 v0_3 v0_4 v0_5)),.one (tS hd)]=some [(false,[tI (bw (GDag.mk v0_0 v0_1 v0_2 v0_3 v0_4 v0_5) hd)])]) (eT (GDag.mk v0_0 v0_1 v0_2 v0_3 v0_4 v0_5) hd h2)<|AD (K5 (fk v2 (bw (GDag.mk v0_0 v0_1 v0_2 v0_3 v0_4 v0_5) hd) h3) h4)<|AN)) (by intro h;cases h))
noncomputable def kj (x0:GDag) (x1:GTask) (x2:List Int):Option (Bool) :=
  if x1.f4.length≤9223372036854775807 then (ew x0.f0 x0.f1 x0.f2 x0.f3 x0.f5 x2 x1.f4 0 x0.f4).bind fun y=>match y with
   | .ret w0_6=>(some (w0_6))
   | .x0=>(some (true)) else none
theorem yl {q0:Kd} (x0:GDag) (x1:GTask) (x2:List Int):Ans (kj x0 x1 x2) (fun r=>Does E 71 [.im .far () (GDag.t .far q0 x0) 0,.agg (GTask.t .far x1),.one (.s .far () 1 (x2.map etI))] [(false,[tB r])]):=by
 unfold kj
 refine K2 (fun hl1 => ?_)
 refine K1 (fun y hy => ?_)
 replace hy:=xg (q0:=q0) x0.f0 x0.f1 x0.f2 x0.f3 x0.f5 x2 x1.f4 x1.f4 0 x0.f4 rfl hl1 y hy
 cases y with
 | ret w0_6 =>
  have h0:=hy
  exact KX (DP Tryz.f71 [.val (.int .i64 (x1.f4.length:Int)),.lp .ret (jQ q0 w0_6)] (ALn x1.f4 etS<|AL h0<|AN))
 | x0 =>
  have h0:=hy
  exact KX (DP Tryz.f71 [.val (.int .i64 (x1.f4.length:Int)),.lp (.exit 0) (kJ q0)] (ALn x1.f4 etS<|AL h0<|AN))
def pK (ts:List GTask) (o:List Int) (t:GTask):Bool:=t.f4.all fun n=>cq o (ao ts n)
def uo (d:GDag) (t:GTask) (o:List Int):Bool:=pK d.f5 o t
theorem GK (a b:ByteArray) (c e:Int) (ts:List GTask) (o:List Int) (ht:ts.length≤1050000) (ho:o.length≤1050000):∀ (l:List ByteArray) (i:Nat) (z:Bool),ew a b c e ts o l i z=some (cond (l.all fun n=>cq o (ao ts n)) .x0 (.ret false))
 | [],i,z=>rfl
 | n::l,i,z=>by
  unfold ew
  rw [if_pos (show (GDag.mk a b c e z ts).f5.length≤1050000 from ht),if_pos ho,List.all_cons,GK a b c e ts o ht ho l (i+1) z]
  show cond (cq o (ao ts n)) _ _=_
  cases cq o (ao ts n)<;>rfl
theorem Jz (d:GDag) (t:GTask) (o:List Int) (h1:d.f5.length≤1050000) (h2:t.f4.length≤1050000) (h3:o.length≤1050000):kj d t o=some (uo d t o):=by
 unfold kj
 rw [if_pos (by omega),GK _ _ _ _ _ _ h1 h3]
 show _=some (t.f4.all fun n=>cq o (ao d.f5 n))
 cases t.f4.all fun n=>cq o (ao d.f5 n)<;>rfl
theorem xX {q0:Kd} (x0:GDag) (x1:GTask) (x2:List Int) (h1:x0.f5.length≤1050000) (h2:x1.f4.length≤1050000) (h3:x2.length≤1050000):Does E 71 [.im .far () (GDag.t .far q0 x0) 0,.agg (GTask.t .far x1),.one (.s .far () 1 (x2.map etI))] [(false,[tB (uo x0 x1 x2)])]:=by
 exact yl x0 x1 x2 _ (Jz x0 x1 x2 h1 h2 h3)
noncomputable def nP (x0:GTask) (y0:List Int) (y1:GDag):Option (Bool) :=
  if y1.f5.length≤1050000 then if y0.length≤1050000 then cond (cq y0 (bw y1 x0.f0))
   (some (false))
   (if x0.f4.length≤1050000 then some (uo y1 x0 y0) else none) else none else none
theorem zZ {qy1:Kd} (x0:GTask) (y0:List Int) (y1:GDag):Ans (nP x0 y0 y1) (fun r=>Does E 69 [.agg (GTask.t .far x0),.im .far () [.s .far () 1 (y0.map etI)] 0,.im .far () [tS y1.f0,tS y1.f1,tI y1.f2,tI y1.f3,tB y1.f4,.s .far () 5 (y1.f5.map (GTask.t qy1))] 0] [(false,[tB r])]):=by
 unfold nP
 refine K2 (fun h0 => ?_)
 refine K2 (fun h1 => ?_)
 apply K0<;>intro h2
 ·exact KX (DP Tryz.f69 [.ret [(false,[tI (bw y1 x0.f0)])],rT] (AV (ψ:=fun k=>E.C k 49 [.agg (GDag.t .far qy1 y1),.one (tS x0.f0)]=some [(false,[tI (bw y1 x0.f0)])]) (eT y1 x0.f0 h0)<|AD (K5 (fk y0 (bw y1 x0.f0) h1) h2)<|AN))
 ·refine K2 (fun h3 => ?_)
  exact KX (DP Tryz.f69 [.ret [(false,[tI (bw y1 x0.f0)])],rF,.ret [(false,[tB (uo y1 x0 y0)])]] (AV (ψ:=fun k=>E.C k 49 [.agg (GDag.t .far qy1 y1),.one (tS x0.f0)]=some [(false,[tI (bw y1 x0.f0)])]) (eT y1 x0.f0 h0)<|AD (K5 (fk y0 (bw y1 x0.f0) h1) h2)<|AV (ψ:=fun k=>E.C k 71 [.im .far () [tS y1.f0,tS y1.f1,tI y1.f2,tI y1.f3,tB y1.f4,.s .far () 5 (y1.f5.map (GTask.t qy1))] 0,.agg (GTask.t .far x0),.one (.s .far () 1 (y0.map etI))]=some [(false,[tB (uo y1 x0 y0)])]) (xX y1 x0 y0 h0 h3 h1)<|AN))
def wt (t:GTask) (o:List Int) (d:GDag):Bool := !cq o (ao d.f5 t.f0)&&pK d.f5 o t
theorem sG {qy1:Kd} (x0:GTask) (y0:List Int) (y1:GDag) (h1:y1.f5.length≤1050000) (h2:x0.f4.length≤1050000) (h3:y0.length≤1050000):Does E 69 [.agg (GTask.t .far x0),.im .far () [.s .far () 1 (y0.map etI)] 0,.im .far () [tS y1.f0,tS y1.f1,tI y1.f2,tI y1.f3,tB y1.f4,.s .far () 5 (y1.f5.map (GTask.t qy1))] 0] [(false,[tB (wt x0 y0 y1)])]:=by
 exact zZ x0 y0 y1 _ (by
  unfold nP wt
  simp only [h1,h2,h3,if_true]
  show cond (cq y0 (ao y1.f5 x0.f0)) _ _=_
  cases cq y0 (ao y1.f5 x0.f0)<;>rfl)
inductive fi where
 | ret (v4:Int)
 | x0 
def bm (q0:Kd) (qc1_1:Kd) (v0:List GTask) (v1_0_0:List Int) (v1_1_0 v1_1_1:ByteArray) (v1_1_2 v1_1_3:Int) (v1_1_4:Bool) (v1_1_5:List GTask) (v7 v8:Int):US:=stL 19 [(0,.one (.s .far () 5 (v0.map (GTask.t q0)))),(1,.fni 69 [((),[.s .far () 1 (v1_0_0.map etI)]),((),[tS v1_1_0,tS v1_1_1,tI v1_1_2,tI v1_1_3,tB v1_1_4,.s .far () 5 (v1_1_5.map (GTask.t qc1_1))])]),(7,.one (tI v7)),(8,.one (tI v8))]
def cG (q0:Kd) (qc1_1:Kd) (zv4:Int):US:=stL 19 [(4,.one (tI zv4))]
def cQ (q0:Kd) (qc1_1:Kd)  : US:=stL 19 []
abbrev db:US→Exit→US→Prop:=Round E 67 (aw Tryz.f67 0)
def j8 {q0:Kd} {qc1_1:Kd} (v0:List GTask) (v1_0_0:List Int) (v1_1_0 v1_1_1:ByteArray) (v1_1_2 v1_1_3:Int) (v1_1_4:Bool) (v1_1_5:List GTask) (v7 v8:Int):fi→Prop
 | .ret zv4=>Loops E 67 (aw Tryz.f67 0) (bm q0 qc1_1 v0 v1_0_0 v1_1_0 v1_1_1 v1_1_2 v1_1_3 v1_1_4 v1_1_5 v7 v8) .ret (cG q0 qc1_1 zv4)
 | .x0=>Loops E 67 (aw Tryz.f67 0) (bm q0 qc1_1 v0 v1_0_0 v1_1_0 v1_1_1 v1_1_2 v1_1_3 v1_1_4 v1_1_5 v7 v8) (.exit 0) (cQ q0 qc1_1)
noncomputable def aV (v1_0_0:List Int) (v1_1_0 v1_1_1:ByteArray) (v1_1_2 v1_1_3:Int) (v1_1_5:List GTask):List GTask→Nat→Bool→Option fi
 | [],i,v1_1_4=>some (.x0)
 | hd::rest,i,v1_1_4=>if (GDag.mk v1_1_0 v1_1_1 v1_1_2 v1_1_3 v1_1_4 v1_1_5).f5.length≤1050000 then if hd.f4.length≤1050000 then if v1_0_0.length≤1050000 then cond (wt hd v1_0_0 (GDag.mk v1_1_0 v1_1_1 v1_1_2 v1_1_3 v1_1_4 v1_1_5))
  (some (.ret (i:Int)))
  (aV v1_0_0 v1_1_0 v1_1_1 v1_1_2 v1_1_3 v1_1_5 rest (i+1) v1_1_4) else none else none else none
theorem j7 {q0:Kd} {qc1_1:Kd} (v0:List GTask) (v1_0_0:List Int) (v1_1_0 v1_1_1:ByteArray) (v1_1_2 v1_1_3:Int) (v1_1_5:List GTask) (rest:List GTask):∀ (i:Nat) (v1_1_4:Bool),(v0).drop i=rest→v0.length≤9223372036854775807→Ans (aV v1_0_0 v1_1_0 v1_1_1 v1_1_2 v1_1_3 v1_1_5 rest i v1_1_4) (j8 (q0:=q0) (qc1_1:=qc1_1) v0 v1_0_0 v1_1_0 v1_1_1 v1_1_2 v1_1_3 v1_1_4 v1_1_5 (v0.length:Int) (i:Int)):=by
 induction rest with
 | nil =>
  intro i v1_1_4 hE hl
  have hb:=bo hE
  unfold aV
  exact KX (KZ (show db (bm q0 qc1_1 v0 v1_0_0 v1_1_0 v1_1_1 v1_1_2 v1_1_3 v1_1_4 v1_1_5 (v0.length:Int) (i:Int)) (.exit 0) (cQ q0 qc1_1) from RP [.b false] (AC hb<|AN)) (by intro h;cases h))
 | cons hd rest ih =>
  intro i v1_1_4 hE hl
  have hb:=aY hE
  have hw:=aZ hE hl
  have hE2:=aH hE
  have hg:=bc hE
  unfold aV
  refine K2 (fun h2 => ?_)
  refine K2 (fun h3 => ?_)
  refine K2 (fun h4 => ?_)
  apply K0<;>intro h5
  ·exact KX (KZ (show db (bm q0 qc1_1 v0 v1_0_0 v1_1_0 v1_1_1 v1_1_2 v1_1_3 v1_1_4 v1_1_5 (v0.length:Int) (i:Int)) .ret (cG q0 qc1_1 (i:Int)) from RP [.b true,.row ((GTask.t q0) hd),rT] (AC hb<|AR (GTask.t q0) hg<|AV (ψ:=fun k=>E.C k 69 [.agg (GTask.t .far hd),.im .far () [.s .far () 1 (v1_0_0.map etI)] 0,.im .far () [tS v1_1_0,tS v1_1_1,tI v1_1_2,tI v1_1_3,tB v1_1_4,.s .far () 5 (v1_1_5.map (GTask.t qc1_1))] 0]=some [(false,[tB true])]) (K3 (sG hd v1_0_0 (GDag.mk v1_1_0 v1_1_1 v1_1_2 v1_1_3 v1_1_4 v1_1_5) h2 h3 h4) (by rw [h5]))<|AN)) (by intro h;cases h))
  ·exact (ih (i+1) v1_1_4 hE2 hl).mono fun y hy=>by have r:db (bm q0 qc1_1 v0 v1_0_0 v1_1_0 v1_1_1 v1_1_2 v1_1_3 v1_1_4 v1_1_5 (v0.length:Int) (i:Int)) .normal (bm q0 qc1_1 v0 v1_0_0 v1_1_0 v1_1_1 v1_1_2 v1_1_3 v1_1_4 v1_1_5 (v0.length:Int) (inc (i:Int))):=RP [.b true,.row ((GTask.t q0) hd),rF] (AC hb<|AR (GTask.t q0) hg<|AV (ψ:=fun k=>E.C k 69 [.agg (GTask.t .far hd),.im .far () [.s .far () 1 (v1_0_0.map etI)] 0,.im .far () [tS v1_1_0,tS v1_1_1,tI v1_1_2,tI v1_1_3,tB v1_1_4,.s .far () 5 (v1_1_5.map (GTask.t qc1_1))] 0]=some [(false,[tB false])]) (K3 (sG hd v1_0_0 (GDag.mk v1_1_0 v1_1_1 v1_1_2 v1_1_3 v1_1_4 v1_1_5) h2 h3 h4) (by rw [h5]))<|AN);rw [hw] at r;cases y<;>exact KY r hy
noncomputable def cg (x0:List GTask) (c1_0:List Int) (c1_1:GDag):Option (Int) :=
  if x0.length≤9223372036854775807 then (aV c1_0 c1_1.f0 c1_1.f1 c1_1.f2 c1_1.f3 c1_1.f5 x0 0 c1_1.f4).bind fun y=>match y with
   | .ret w0_4=>(some (w0_4))
   | .x0=>(some ((-1:Int))) else none
theorem kG {q0:Kd} {qc1_1:Kd} (x0:List GTask) (c1_0:List Int) (c1_1:GDag):Ans (cg x0 c1_0 c1_1) (fun r=>Does E 67 [.one (.s .far () 5 (x0.map (GTask.t q0))),.fni 69 [((),[.s .far () 1 (c1_0.map etI)]),((),[tS c1_1.f0,tS c1_1.f1,tI c1_1.f2,tI c1_1.f3,tB c1_1.f4,.s .far () 5 (c1_1.f5.map (GTask.t qc1_1))])]] [(false,[tI r])]):=by
 unfold cg
 refine K2 (fun hl1 => ?_)
 refine K1 (fun y hy => ?_)
 replace hy:=j7 (q0:=q0) (qc1_1:=qc1_1) x0 c1_0 c1_1.f0 c1_1.f1 c1_1.f2 c1_1.f3 c1_1.f5 x0 0 c1_1.f4 rfl hl1 y hy
 cases y with
 | ret w0_4 =>
  have h0:=hy
  exact KX (DP Tryz.f67 [.val (.int .i64 (x0.length:Int)),.lp .ret (cG q0 qc1_1 w0_4)] (ALn x0 (GTask.t q0)<|AL h0<|AN))
 | x0 =>
  have h0:=hy
  exact KX (DP Tryz.f67 [.val (.int .i64 (x0.length:Int)),.lp (.exit 0) (cQ q0 qc1_1)] (ALn x0 (GTask.t q0)<|AL h0<|AN))
def eB (o:List Int) (ts:List GTask):List GTask→Nat→Option Nat
 | [],_=>none
 | t::r,i=>if (!cq o (ao ts t.f0)&&pK ts o t)=true then some i else eB o ts r (i+1)
def ce (l:List GTask) (o:List Int) (d:GDag):Int:=match eB o d.f5 l 0 with | some i=>(i:Int) | none => -1
theorem G7 (o:List Int) (a b:ByteArray) (c e:Int) (ts:List GTask) (ht:ts.length≤1050000) (ho:o.length≤1050000):∀ (l:List GTask) (i:Nat) (z:Bool),am.sm l→aV o a b c e ts l i z=some (match eB o ts l i with | some k => .ret (k:Int) | none => .x0)
 | [],i,z,_=>rfl
 | t::l,i,z,hl=>by
  unfold aV eB
  have h4:t.f4.length≤1050000:=(hl.2 t (by simp)).2.2.1
  rw [if_pos (show (GDag.mk a b c e z ts).f5.length≤1050000 from ht),if_pos h4,if_pos ho,G7 o a b c e ts ht ho l (i+1) z ⟨by have:=hl.1;simp at this;omega,fun y hy=>hl.2 y (by simp [hy])⟩]
  show cond (!cq o (ao ts t.f0)&&pK ts o t) _ _=_
  cases (!cq o (ao ts t.f0)&&pK ts o t)<;>rfl
theorem JH (l:List GTask) (o:List Int) (d:GDag) (h1:am.sm l) (h2:d.f5.length≤1050000) (h3:o.length≤1050000):cg l o d=some (ce l o d):=by
 unfold cg ce
 rw [if_pos (by have:=h1.1;omega),G7 o d.f0 d.f1 d.f2 d.f3 d.f5 h2 h3 l 0 d.f4 h1]
 cases eB o d.f5 l 0<;>rfl
theorem fm {q0:Kd} {qc1_1:Kd} (x0:List GTask) (c1_0:List Int) (c1_1:GDag) (h1:am.sm x0) (h2:c1_1.f5.length≤1050000) (h3:c1_0.length≤1050000):Does E 67 [.one (.s .far () 5 (x0.map (GTask.t q0))),.fni 69 [((),[.s .far () 1 (c1_0.map etI)]),((),[tS c1_1.f0,tS c1_1.f1,tI c1_1.f2,tI c1_1.f3,tB c1_1.f4,.s .far () 5 (c1_1.f5.map (GTask.t qc1_1))])]] [(false,[tI (ce x0 c1_0 c1_1)])]:=by
 exact kG x0 c1_0 c1_1 _ (JH x0 c1_0 c1_1 h1 h2 h3)
inductive uj where
 | ret (v2:List Int)
def mj (q0:Kd) (v1_0 v1_1:ByteArray) (v1_2 v1_3:Int) (v1_4:Bool) (v1_5:List GTask) (v3_0:List Int):US:=stL 16 [(1,.box () [tS v1_0,tS v1_1,tI v1_2,tI v1_3,tB v1_4,.s .far () 5 (v1_5.map (GTask.t q0))]),(3,.box () [.s .own () 1 (v3_0.map etI)])]
def jA (q0:Kd) (zv2:List Int):US:=stL 16 [(2,.one (.s .own () 1 (zv2.map etI)))]
abbrev ui:US→Exit→US→Prop:=Round E 50 (aw Tryz.f50 0)
def BO {q0:Kd} (v1_0 v1_1:ByteArray) (v1_2 v1_3:Int) (v1_4:Bool) (v1_5:List GTask) (v3_0:List Int):uj→Prop
 | .ret zv2=>Loops E 50 (aw Tryz.f50 0) (mj q0 v1_0 v1_1 v1_2 v1_3 v1_4 v1_5 v3_0) .ret (jA q0 zv2)
noncomputable def ip (v1_0 v1_1:ByteArray) (v1_2 v1_3:Int) (v1_5:List GTask):Nat→Bool→(List Int)→Option uj
 | 0,_,_=>none
 | n+1,v1_4,v3_0=>if am.sm v1_5 then if (GDag.mk v1_0 v1_1 v1_2 v1_3 v1_4 v1_5).f5.length≤1050000 then if v3_0.length≤1050000 then cond (decide ((ce v1_5 v3_0 (GDag.mk v1_0 v1_1 v1_2 v1_3 v1_4 v1_5))<(0:Int)))
  (some (.ret v3_0))
  (if (v3_0.length+([ce v1_5 v3_0 (GDag.mk v1_0 v1_1 v1_2 v1_3 v1_4 v1_5)]).length)*8≤140737488355328∧v3_0.length+([ce v1_5 v3_0 (GDag.mk v1_0 v1_1 v1_2 v1_3 v1_4 v1_5)]).length≤4611686018427387904 then ip v1_0 v1_1 v1_2 v1_3 v1_5 n v1_4 (v3_0++([ce v1_5 v3_0 (GDag.mk v1_0 v1_1 v1_2 v1_3 v1_4 v1_5)])) else none) else none else none else none
theorem BN {q0:Kd} (v1_0 v1_1:ByteArray) (v1_2 v1_3:Int) (v1_5:List GTask) (n:Nat):∀ (v1_4:Bool) (v3_0:List Int),Ans (ip v1_0 v1_1 v1_2 v1_3 v1_5 n v1_4 v3_0) (BO (q0:=q0) v1_0 v1_1 v1_2 v1_3 v1_4 v1_5 v3_0):=by
 induction n with
 | zero=>intros;exact Ans.none
 | succ n ih =>
  intro v1_4 v3_0
  unfold ip
  refine K2 (fun h0 => ?_)
  refine K2 (fun h1 => ?_)
  refine K2 (fun h2 => ?_)
  apply K0<;>intro h3
  ·exact KX (KZ (show ui (mj q0 v1_0 v1_1 v1_2 v1_3 v1_4 v1_5 v3_0) .ret (jA q0 v3_0) from Round.to (RP (D':=stL 16 [(2,.one (.s .own () 1 (((v3_0.map etI).drop 0).take (v3_0.map etI).length)))]) [.ret [(false,[tI (ce v1_5 v3_0 (GDag.mk v1_0 v1_1 v1_2 v1_3 v1_4 v1_5))])],.b true] (AV (ψ:=fun k=>E.C k 67 [.one (.s .far () 5 (v1_5.map (GTask.t q0))),.fni 69 [((),[.s .far () 1 (v3_0.map etI)]),((),[tS v1_0,tS v1_1,tI v1_2,tI v1_3,tB v1_4,.s .far () 5 (v1_5.map (GTask.t q0))])]]=some [(false,[tI (ce v1_5 v3_0 (GDag.mk v1_0 v1_1 v1_2 v1_3 v1_4 v1_5))])]) (fm v1_5 v3_0 (GDag.mk v1_0 v1_1 v1_2 v1_3 v1_4 v1_5) h0 h1 h2)<|AC h3<|AN)) (by simp only [jA,List.take_length,List.drop_zero])) (by intro h;cases h))
  ·refine K2 (fun h4 => ?_)
   have r:ui (mj q0 v1_0 v1_1 v1_2 v1_3 v1_4 v1_5 v3_0) .normal (mj q0 v1_0 v1_1 v1_2 v1_3 v1_4 v1_5 (v3_0++([ce v1_5 v3_0 (GDag.mk v1_0 v1_1 v1_2 v1_3 v1_4 v1_5)]))):=RP [.ret [(false,[tI (ce v1_5 v3_0 (GDag.mk v1_0 v1_1 v1_2 v1_3 v1_4 v1_5))])],.b false,.rows ((v3_0++([ce v1_5 v3_0 (GDag.mk v1_0 v1_1 v1_2 v1_3 v1_4 v1_5)])).map etI)] (AV (ψ:=fun k=>E.C k 67 [.one (.s .far () 5 (v1_5.map (GTask.t q0))),.fni 69 [((),[.s .far () 1 (v3_0.map etI)]),((),[tS v1_0,tS v1_1,tI v1_2,tI v1_3,tB v1_4,.s .far () 5 (v1_5.map (GTask.t q0))])]]=some [(false,[tI (ce v1_5 v3_0 (GDag.mk v1_0 v1_1 v1_2 v1_3 v1_4 v1_5))])]) (fm v1_5 v3_0 (GDag.mk v1_0 v1_1 v1_2 v1_3 v1_4 v1_5) h0 h1 h2)<|AC h3<|AC (p:=(((([ce v1_5 v3_0 (GDag.mk v1_0 v1_1 v1_2 v1_3 v1_4 v1_5)]).map etI).drop 0).take (([ce v1_5 v3_0 (GDag.mk v1_0 v1_1 v1_2 v1_3 v1_4 v1_5)]).map etI).length).all (fun r=>r.all T.flat)=true∧((((v3_0.map etI).drop 0).take (v3_0.map etI).length).length+(((([ce v1_5 v3_0 (GDag.mk v1_0 v1_1 v1_2 v1_3 v1_4 v1_5)]).map etI).drop 0).take (([ce v1_5 v3_0 (GDag.mk v1_0 v1_1 v1_2 v1_3 v1_4 v1_5)]).map etI).length).length)*8≤140737488355328∧(((v3_0.map etI).drop 0).take (v3_0.map etI).length).length+(((([ce v1_5 v3_0 (GDag.mk v1_0 v1_1 v1_2 v1_3 v1_4 v1_5)]).map etI).drop 0).take (([ce v1_5 v3_0 (GDag.mk v1_0 v1_1 v1_2 v1_3 v1_4 v1_5)]).map etI).length).length≤4611686018427387904) (by simp only [List.take_length,List.drop_zero];exact AK (fun x=>rfl) h4)<|AC (p:=(((v3_0.map etI).drop 0).take (v3_0.map etI).length)++(((([ce v1_5 v3_0 (GDag.mk v1_0 v1_1 v1_2 v1_3 v1_4 v1_5)]).map etI).drop 0).take (([ce v1_5 v3_0 (GDag.mk v1_0 v1_1 v1_2 v1_3 v1_4 v1_5)]).map etI).length)=(v3_0++([ce v1_5 v3_0 (GDag.mk v1_0 v1_1 v1_2 v1_3 v1_4 v1_5)])).map etI) (by simp only [List.take_length,List.drop_zero];exact A6)<|AN);exact (ih v1_4 (v3_0++([ce v1_5 v3_0 (GDag.mk v1_0 v1_1 v1_2 v1_3 v1_4 v1_5)]))).mono fun y hy=>by cases y<;>exact KY r hy
noncomputable def nm (x0:GDag):Option ((List Int)) :=
  (ip x0.f0 x0.f1 x0.f2 x0.f3 x0.f5 9223372036854775808 x0.f4 ([])).bind fun y=>match y with
   | .ret w0_2=>(some (w0_2))
theorem DE {q0:Kd} (x0:GDag):Ans (nm x0) (fun r=>Does E 50 [.agg (GDag.t .far q0 x0)] [(false,[.s .own () 1 (r.map etI)])]):=by
 unfold nm
 refine K1 (fun y hy => ?_)
 replace hy:=BN (q0:=q0) x0.f0 x0.f1 x0.f2 x0.f3 x0.f5 9223372036854775808 x0.f4 ([]) y hy
 cases y with
 | ret w0_2 =>
  have h0:=hy
  exact KX (DP Tryz.f50 [.lp .ret (jA q0 w0_2)] (AL h0<|AN))
def cN (ts:List GTask):Prop:=ts.length≤4∧∀ (i:Nat) (t:GTask),ts[i]?=some t→ao ts t.f0=(i:Int)
def iu (ts:List GTask):Nat→List Int→List Int
 | 0,o=>o
 | k+1,o=>match eB o ts ts 0 with | none=>o | some i=>iu ts k (o++[(i:Int)])
def da (ts:List GTask):List Int:=iu ts ts.length []
def eI (d:GDag):List Int:=da d.f5
theorem wj {o:List Int} {x:Int}:cq o x=true↔x∈o:=by
 unfold cq
 rw [List.any_eq_true]
 constructor
 ·rintro ⟨y,h,e⟩;rw [beq_iff_eq] at e;subst e;exact h
 ·intro h;exact ⟨x,h,by simp⟩
theorem nV {o:List Int} {ts:List GTask}:∀ {l:List GTask} {i k:Nat},eB o ts l i=some k→∃ t j,k=i+j∧l[j]?=some t∧cq o (ao ts t.f0)=false∧pK ts o t=true
 | [],i,k,h=>by cases h
 | t::l,i,k,h=>by
  unfold eB at h
  split at h
  ·rename_i q
   cases h
   simp only [Bool.and_eq_true,Bool.not_eq_true'] at q
   exact ⟨t,0,rfl,rfl,q.1,q.2⟩
  ·obtain ⟨u,j,h1,h2,h3⟩:=nV h
   exact ⟨u,j+1,by omega,h2,h3⟩
def uZ (n:Nat) (o:List Int):Nat:=((List.range n).filter fun i:Nat => !cq o (i:Int)).length
theorem zi {α:Type} {p q:α→Bool}:∀ {l:List α},(∀ y,q y=true→p y=true)→(l.filter q).length≤(l.filter p).length
 | [],_=>by simp
 | z::l,h=>by
  have ih:=zi (l:=l) h
  rw [List.filter_cons,List.filter_cons]
  cases a:q z with
  | true=>rw [h z a];simpa using ih
  | false=>cases p z<;>simp<;>omega
theorem zj {α:Type} {p q:α→Bool} {x:α}:∀ {l:List α},(∀ y,q y=true→p y=true)→x∈l→p x=true→q x=false→(l.filter q).length<(l.filter p).length
 | y::l,h,hx,h1,h2=>by
  have le:=zi (l:=l) h
  rw [List.filter_cons,List.filter_cons]
  rcases List.mem_cons.1 hx with rfl | hx
  ·rw [h1,h2];simp;omega
  ·have:=zj (l:=l) h hx h1 h2
   cases a:q y with
   | true=>rw [h y a];simpa using this
   | false=>cases p y<;>simp<;>omega
theorem G4 {n i:Nat} {o:List Int} (hi:i<n) (h:cq o (i:Int)=false):uZ n (o++[(i:Int)])<uZ n o:=by
 unfold uZ
 refine zj (p:=fun i:Nat => !cq o (i:Int)) (q:=fun j:Nat => !cq (o++[(i:Int)]) (j:Int)) (x:=i) (fun y hy => ?_) (List.mem_range.2 hi) (by rw [h];rfl) ?_
 ·rw [Bool.not_eq_true'] at hy ⊢
  rw [← Bool.not_eq_true,wj] at hy ⊢
  exact fun e=>hy (by simp [e])
 ·have:cq (o++[(i:Int)]) (i:Int)=true:=wj.2 (by simp)
  rw [this];rfl
theorem Ik (n:Nat):uZ n []=n:=by
 unfold uZ
 have:(List.range n).filter (fun i:Nat => !cq [] (i:Int))=List.range n:=List.filter_eq_self.2 fun a _=>rfl
 rw [this,List.length_range]
theorem EH (a b:ByteArray) (c e:Int) (ts:List GTask) (hs:am.sm ts) (hg:cN ts):∀ (k n:Nat) (o:List Int) (z:Bool),uZ ts.length o≤k→k<n→o.length+k≤1000→ip a b c e ts n z o=some (.ret (iu ts k o))
 | k,0,o,z,_,hn,_=>by omega
 | k,n+1,o,z,hk,hn,hl=>by
  unfold ip
  rw [if_pos hs,if_pos (show (GDag.mk a b c e z ts).f5.length≤1050000 from hs.1),if_pos (by omega)]
  have hx:ce ts o (GDag.mk a b c e z ts)=match eB o ts ts 0 with | some i=>(i:Int) | none => -1:=rfl
  rw [hx]
  cases q:eB o ts ts 0 with
  | none =>
   have:iu ts k o=o:=by
    cases k with
    | zero=>rfl
    | succ k=>unfold iu;rw [q]
   rw [this];rfl
  | some i =>
   obtain ⟨t,j,h1,h2,h3,h4⟩:=nV q
   have hij:i=j:=by omega
   subst hij
   rw [hg.2 i t h2] at h3
   have hi:i<ts.length:=by
    rcases Nat.lt_or_ge i ts.length with g | g
    ·exact g
    ·rw [List.getElem?_eq_none g] at h2;cases h2
   have less:=G4 hi h3
   obtain ⟨k,rfl⟩:∃ m,k=m+1:=⟨k-1,by omega⟩
   have ih:=EH a b c e ts hs hg k n (o++[(i:Int)]) z (by omega) (by omega) (by simp;omega)
   simp only
   rw [decide_eq_false (by omega),cond_false,if_pos (by simp;omega),ih]
   conv=>rhs;unfold iu
   rw [q]
theorem He (d:GDag) (h:am.sm d) (hg:cN d.f5):nm d=some (eI d):=by
 have hs:am.sm d.f5:=h.2.2
 unfold nm
 have:=EH d.f0 d.f1 d.f2 d.f3 d.f5 hs hg d.f5.length 9223372036854775808 [] d.f4 (by rw [Ik];exact Nat.le_refl _) (by have:=hg.1;omega) (by have:=hg.1;simp;omega)
 refine (congrArg (Option.bind · _) this).trans rfl
theorem vd {q0:Kd} (x0:GDag) (h:am.sm x0) (hg:cN x0.f5):Does E 50 [.agg (GDag.t .far q0 x0)] [(false,[.s .own () 1 ((eI x0).map etI)])]:=by
 exact DE x0 _ (He x0 h hg)
inductive tf where
 | x4 (v6:Bool)
def fD (q0:Kd) (v0:List GTask) (v3:List Int) (v4 v5:Int) (v6:Bool) (v7:Int):US:=stL 57 [(0,.one (.s .far () 5 (v0.map (GTask.t q0)))),(3,.one (.s .own () 1 (v3.map etI))),(4,.one (tI v4)),(5,.one (tI v5)),(6,.one (tB v6)),(7,.one (tI v7))]
def gV (q0:Kd) (v0:List GTask) (v3:List Int) (v4 v5:Int) (zv6:Bool):US:=stL 57 [(0,.one (.s .far () 5 (v0.map (GTask.t q0)))),(3,.one (.s .own () 1 (v3.map etI))),(4,.one (tI v4)),(5,.one (tI v5)),(6,.one (tB zv6))]
abbrev ln:US→Exit→US→Prop:=Round E 19 (aw Tryz.f19 2)
def AE {q0:Kd} (v0:List GTask) (v3:List Int) (v4 v5:Int) (v6:Bool) (v7:Int):tf→Prop
 | .x4 zv6=>Loops E 19 (aw Tryz.f19 2) (fD q0 v0 v3 v4 v5 v6 v7) (.exit 4) (gV q0 v0 v3 v4 v5 zv6)
noncomputable def eP (v0:List GTask) (v3:List Int) (v5:Int):Nat→Bool→Int→Option tf
 | 0,_,_=>none
 | n+1,v6,v7=>match v6 with
  | true=>(aA v0 v5).bind fun g0=>cond (decide (v7<(g0.f4.length:Int)))
   ((aA g0.f4 v7).bind fun g1=>if v0.length≤1050000 then if v3.length≤1050000 then eP v0 v3 v5 n (cq v3 (ao v0 g1)) (inc v7) else none else none)
   (some (.x4 v6))
  | false=>(aA v0 v5).bind fun g0=>cond (decide (v7<(g0.f4.length:Int)))
   (eP v0 v3 v5 n false (inc v7))
   (some (.x4 v6))
theorem Az {q0:Kd} (v0:List GTask) (v3:List Int) (v4 v5:Int) (n:Nat):∀ (v6:Bool) (v7:Int),Ans (eP v0 v3 v5 n v6 v7) (AE (q0:=q0) v0 v3 v4 v5 v6 v7):=by
 induction n with
 | zero=>intros;exact Ans.none
 | succ n ih =>
  intro v6 v7
  unfold eP
  cases v6 with
  | true =>
   refine K1 (fun g0 h0 => ?_)
   apply K0<;>intro h1
   ·refine K1 (fun g1 h2 => ?_)
    refine K2 (fun h3 => ?_)
    refine K2 (fun h4 => ?_)
    have r:ln (fD q0 v0 v3 v4 v5 true v7) .normal (fD q0 v0 v3 v4 v5 (cq v3 (ao v0 g1)) (inc v7)):=RP [.row ((GTask.t q0) g0),.val (.int .i64 (g0.f4.length:Int)),.b true,.row ((GTask.t q0) g0),.row (etS g1),.ret [(false,[tI (ao v0 g1)])],.ret [(false,[tB (cq v3 (ao v0 g1))])]] (AR (GTask.t q0) h0<|ALn g0.f4 etS<|AC h1<|AR (GTask.t q0) h0<|AR etS h2<|AV (ψ:=fun k=>E.C k 40 [.one (.s .far () 5 (v0.map (GTask.t q0))),.one (tS g1)]=some [(false,[tI (ao v0 g1)])]) (e8 v0 g1 h3)<|AV (ψ:=fun k=>E.C k 39 [.one (.s .far () 1 (((v3.map etI).drop 0).take (v3.map etI).length)),.one (tI (ao v0 g1))]=some [(false,[tB (cq v3 (ao v0 g1))])]) (K4 (by simp only [List.take_length,List.drop_zero]) (pF v3 (ao v0 g1) h4))<|AN);exact (ih (cq v3 (ao v0 g1)) (inc v7)).mono fun y hy=>by cases y<;>exact KY r hy
   ·exact KX (KZ (show ln (fD q0 v0 v3 v4 v5 true v7) (.exit 4) (gV q0 v0 v3 v4 v5 true) from RP [.row ((GTask.t q0) g0),.val (.int .i64 (g0.f4.length:Int)),.b false] (AR (GTask.t q0) h0<|ALn g0.f4 etS<|AC h1<|AN)) (by intro h;cases h))
  | false =>
   refine K1 (fun g0 h0 => ?_)
   apply K0<;>intro h1
   ·have r:ln (fD q0 v0 v3 v4 v5 false v7) .normal (fD q0 v0 v3 v4 v5 false (inc v7)):=RP [.row ((GTask.t q0) g0),.val (.int .i64 (g0.f4.length:Int)),.b true] (AR (GTask.t q0) h0<|ALn g0.f4 etS<|AC h1<|AN);exact (ih false (inc v7)).mono fun y hy=>by cases y<;>exact KY r hy
   ·exact KX (KZ (show ln (fD q0 v0 v3 v4 v5 false v7) (.exit 4) (gV q0 v0 v3 v4 v5 false) from RP [.row ((GTask.t q0) g0),.val (.int .i64 (g0.f4.length:Int)),.b false] (AR (GTask.t q0) h0<|ALn g0.f4 etS<|AC h1<|AN)) (by intro h;cases h))
inductive tc where
 | x2 (v3:List Int)
def eO (q0:Kd) (v0:List GTask) (v3:List Int) (v4 v5:Int):US:=stL 57 [(0,.one (.s .far () 5 (v0.map (GTask.t q0)))),(3,.one (.s .own () 1 (v3.map etI))),(4,.one (tI v4)),(5,.one (tI v5))]
def mK (q0:Kd) (v0:List GTask) (v4:Int) (zv3:List Int):US:=stL 57 [(0,.one (.s .far () 5 (v0.map (GTask.t q0)))),(3,.one (.s .own () 1 (zv3.map etI))),(4,.one (tI v4))]
abbrev lm:US→Exit→US→Prop:=Round E 19 (aw Tryz.f19 1)
def AB {q0:Kd} (v0:List GTask) (v3:List Int) (v4 v5:Int):tc→Prop
 | .x2 zv3=>Loops E 19 (aw Tryz.f19 1) (eO q0 v0 v3 v4 v5) (.exit 2) (mK q0 v0 v4 zv3)
noncomputable def dj (v0:List GTask):Nat→(List Int)→Int→Option tc
 | 0,_,_=>none
 | n+1,v3,v5=>cond (decide (v5<(v0.length:Int)))
  (if v3.length≤1050000 then cond (cq v3 v5)
   (dj v0 n v3 (inc v5))
   ((eP v0 v3 v5 9223372036854775808 true (0:Int)).bind fun y=>match y with
    | .x4 w0_6=>(match w0_6 with
     | true=>if (v3.length+([v5]).length)*8≤140737488355328∧v3.length+([v5]).length≤4611686018427387904 then dj v0 n (v3++([v5])) (inc (v0.length:Int)) else none
     | false=>dj v0 n v3 (inc v5))) else none)
  (some (.x2 v3))
theorem Ay {q0:Kd} (v0:List GTask) (v4:Int) (n:Nat):∀ (v3:List Int) (v5:Int),Ans (dj v0 n v3 v5) (AB (q0:=q0) v0 v3 v4 v5):=by
 induction n with
 | zero=>intros;exact Ans.none
 | succ n ih =>
  intro v3 v5
  unfold dj
  apply K0<;>intro h0
  ·refine K2 (fun h1 => ?_)
   apply K0<;>intro h2
   ·have r:lm (eO q0 v0 v3 v4 v5) .normal (eO q0 v0 v3 v4 (inc v5)):=RP [.val (.int .i64 (v0.length:Int)),.b true,rT] (ALn v0 (GTask.t q0)<|AC h0<|AV (ψ:=fun k=>E.C k 39 [.one (.s .far () 1 (((v3.map etI).drop 0).take (v3.map etI).length)),.one (tI v5)]=some [(false,[tB true])]) (K4 (by simp only [List.take_length,List.drop_zero]) (K3 (pF v3 v5 h1) (by rw [h2])))<|AN);exact (ih v3 (inc v5)).mono fun y hy=>by cases y<;>exact KY r hy
   ·refine K1 (fun y hy => ?_)
    replace hy:=Az (q0:=q0) v0 v3 v4 v5 9223372036854775808 true (0:Int) y hy
    cases y with
    | x4 w0_6 =>
     have h3:=hy
     cases w0_6 with
     | true =>
      refine K2 (fun h4 => ?_)
      have r:lm (eO q0 v0 v3 v4 v5) .normal (eO q0 v0 (v3++([v5])) v4 (inc (v0.length:Int))):=RP [.val (.int .i64 (v0.length:Int)),.b true,rF,.lp (.exit 4) (gV q0 v0 v3 v4 v5 true),.rows ((v3++([v5])).map etI),.val (.int .i64 (v0.length:Int))] (ALn v0 (GTask.t q0)<|AC h0<|AV (ψ:=fun k=>E.C k 39 [.one (.s .far () 1 (((v3.map etI).drop 0).take (v3.map etI).length)),.one (tI v5)]=some [(false,[tB false])]) (K4 (by simp only [List.take_length,List.drop_zero]) (K3 (pF v3 v5 h1) (by rw [h2])))<|AL h3<|AAp etI (fun _=>rfl) h4<|ALn v0 (GTask.t q0)<|AN);exact (ih (v3++([v5])) (inc (v0.length:Int))).mono fun y hy=>by cases y<;>exact KY r hy
     | false =>
      have r:lm (eO q0 v0 v3 v4 v5) .normal (eO q0 v0 v3 v4 (inc v5)):=RP [.val (.int .i64 (v0.length:Int)),.b true,rF,.lp (.exit 4) (gV q0 v0 v3 v4 v5 false)] (ALn v0 (GTask.t q0)<|AC h0<|AV (ψ:=fun k=>E.C k 39 [.one (.s .far () 1 (((v3.map etI).drop 0).take (v3.map etI).length)),.one (tI v5)]=some [(false,[tB false])]) (K4 (by simp only [List.take_length,List.drop_zero]) (K3 (pF v3 v5 h1) (by rw [h2])))<|AL h3<|AN);exact (ih v3 (inc v5)).mono fun y hy=>by cases y<;>exact KY r hy
  ·exact KX (KZ (show lm (eO q0 v0 v3 v4 v5) (.exit 2) (mK q0 v0 v4 v3) from RP [.val (.int .i64 (v0.length:Int)),.b false] (ALn v0 (GTask.t q0)<|AC h0<|AN)) (by intro h;cases h))
inductive tb where
 | x0 (v3:List Int)
def lq (q0:Kd) (v0:List GTask) (v3:List Int) (v4:Int):US:=stL 57 [(0,.one (.s .far () 5 (v0.map (GTask.t q0)))),(3,.one (.s .own () 1 (v3.map etI))),(4,.one (tI v4))]
def mJ (q0:Kd) (zv3:List Int):US:=stL 57 [(3,.one (.s .own () 1 (zv3.map etI)))]
abbrev ta:US→Exit→US→Prop:=Round E 19 (aw Tryz.f19 0)
def AA {q0:Kd} (v0:List GTask) (v3:List Int) (v4:Int):tb→Prop
 | .x0 zv3=>Loops E 19 (aw Tryz.f19 0) (lq q0 v0 v3 v4) (.exit 0) (mJ q0 zv3)
noncomputable def fE (v0:List GTask):List GTask→Nat→(List Int)→Option tb
 | [],i,v3=>some (.x0 v3)
 | hd::rest,i,v3=>(dj v0 9223372036854775808 v3 (0:Int)).bind fun y=>match y with
  | .x2 w0_3=>(fE v0 rest (i+1) w0_3)
theorem Ax {q0:Kd} (v0:List GTask) (rest:List GTask):∀ (i:Nat) (v3:List Int),(v0).drop i=rest→v0.length≤9223372036854775807→Ans (fE v0 rest i v3) (AA (q0:=q0) v0 v3 (i:Int)):=by
 induction rest with
 | nil =>
  intro i v3 hE hl
  have hb:=bo hE
  unfold fE
  exact KX (KZ (show ta (lq q0 v0 v3 (i:Int)) (.exit 0) (mJ q0 v3) from RP [.val (.int .i64 (v0.length:Int)),.b false] (ALn v0 (GTask.t q0)<|AC hb<|AN)) (by intro h;cases h))
 | cons hd rest ih =>
  intro i v3 hE hl
  have hb:=aY hE
  have hw:=aZ hE hl
  have hE2:=aH hE
  have hg:=bc hE
  unfold fE
  refine K1 (fun y hy => ?_)
  replace hy:=Ay (q0:=q0) v0 (i:Int) 9223372036854775808 v3 (0:Int) y hy
  cases y with
  | x2 w0_3 =>
   have h1:=hy
   exact (ih (i+1) w0_3 hE2 hl).mono fun y hy=>by have r:ta (lq q0 v0 v3 (i:Int)) .normal (lq q0 v0 w0_3 (inc (i:Int))):=RP [.val (.int .i64 (v0.length:Int)),.b true,.lp (.exit 2) (mK q0 v0 (i:Int) w0_3)] (ALn v0 (GTask.t q0)<|AC hb<|AL h1<|AN);rw [hw] at r;cases y<;>exact KY r hy
noncomputable def mL (x0:List GTask):Option ((List Int)) :=
  if x0.length≤9223372036854775807 then (fE x0 x0 0 ([])).bind fun y=>match y with
   | .x0 w0_3=>(some (w0_3)) else none
theorem CL {q0:Kd} (x0:List GTask):Ans (mL x0) (fun r=>Does E 19 [.one (.s .far () 5 (x0.map (GTask.t q0)))] [(false,[.s .own () 1 (r.map etI)])]):=by
 unfold mL
 refine K2 (fun hl1 => ?_)
 refine K1 (fun y hy => ?_)
 replace hy:=Ax (q0:=q0) x0 x0 0 ([]) rfl hl1 y hy
 cases y with
 | x0 w0_3 =>
  have h0:=hy
  exact KX (DP Tryz.f19 [.lp (.exit 0) (mJ q0 w0_3)] (AL h0<|AN))
theorem CD (ts:List GTask) (o:List Int) (i:Nat) (t:GTask) (ht:ts.length≤1050000) (ho:o.length≤1050000) (hi:ts[i]?=some t) (hf:t.f4.length≤1050000):∀ (m k n:Nat) (b:Bool),k+m=t.f4.length→m<n →
  eP ts o (i:Int) n b (k:Int)=some (.x4 (b&&((t.f4.drop k).all fun x=>cq o (ao ts x))))
 | m,k,0,b,_,hn=>by omega
 | m,k,n+1,b,hk,hn=>by
  have hg:aA ts (i:Int)=some t:=by rw [es];exact hi
  unfold eP
  cases m with
  | zero =>
   have hd:t.f4.drop k=[]:=List.drop_eq_nil_of_le (by omega)
   rw [hd]
   cases b<;>(simp only [hg,Option.bind_some];rw [decide_eq_false (by omega)];rfl)
  | succ m =>
   have hx:∃ x,t.f4[k]?=some x:=⟨t.f4[k]'(by omega),List.getElem?_eq_getElem (by omega)⟩
   obtain ⟨x,hx⟩:=hx
   have hd:t.f4.drop k=x::t.f4.drop (k+1):=by
    rw [List.drop_eq_getElem_cons (by omega:k<t.f4.length)]
    rw [List.getElem?_eq_getElem (by omega)] at hx
    rw [Option.some.inj hx]
   have e:inc (k:Int)=((k+1:Nat):Int):=by rw [fa _ (by omega) (by omega)];omega
   rw [hd,List.all_cons]
   cases b with
   | false =>
    simp only [hg,Option.bind_some]
    rw [decide_eq_true (by omega),cond_true,e,CD ts o i t ht ho hi hf m (k+1) n false (by omega) (by omega)];rfl
   | true =>
    have hy:aA t.f4 (k:Int)=some x:=by rw [es];exact hx
    simp only [hg,Option.bind_some]
    rw [decide_eq_true (by omega),cond_true,hy,Option.bind_some,if_pos ht,if_pos ho,e,CD ts o i t ht ho hi hf m (k+1) n _ (by omega) (by omega)];rfl
theorem EI (ts:List GTask) (hs:am.sm ts) (hg:cN ts) (o:List Int) (ho:o.length≤1000):∀ (m i n:Nat),i+m=ts.length→m+1<n →
  dj ts n o (i:Int)=some (.x2 (match eB o ts (ts.drop i) i with | some k=>o++[(k:Int)] | none=>o))
 | m,i,0,_,hn=>by omega
 | m,i,n+1,hi,hn=>by
  have h4:=hg.1
  unfold dj
  cases m with
  | zero =>
   have hd:ts.drop i=[]:=List.drop_eq_nil_of_le (by omega)
   rw [hd,decide_eq_false (by omega)];rfl
  | succ m =>
   have hlt:i<ts.length:=by omega
   have ht:ts[i]?=some ts[i]:=List.getElem?_eq_getElem hlt
   have hd:ts.drop i=ts[i]::ts.drop (i+1):=List.drop_eq_getElem_cons hlt
   have hf:ts[i].f4.length≤1050000:=(hs.2 ts[i] (List.getElem_mem _)).2.2.1
   have e:inc (i:Int)=((i+1:Nat):Int):=by rw [fa _ (by omega) (by omega)];omega
   have hn':=hg.2 i _ ht
   have fr:=CD ts o i ts[i] hs.1 (by omega) ht hf ts[i].f4.length 0 9223372036854775808 true (by omega) (by omega)
   have ih:=EI ts hs hg o ho m (i+1) n (by omega) (by omega)
   rw [List.drop_zero,Bool.true_and] at fr
   have fr':eP ts o (i:Int) 9223372036854775808 true (0:Int)=some (.x4 (pK ts o ts[i])):=fr
   rw [decide_eq_true (by omega),cond_true,if_pos (by omega),hd,fr',e]
   unfold eB
   rw [hn']
   cases cq o (i:Int) with
   | true=>rw [cond_true,ih];rfl
   | false =>
    rw [cond_false,Option.bind_some]
    cases pK ts o ts[i] with
    | false =>
     simp only [ih];rfl
    | true =>
     have stop:∀ w,dj ts n w (inc (ts.length:Int))=some (.x2 w):=fun w=>by
      obtain ⟨n,rfl⟩:∃ j,n=j+1:=⟨n-1,by omega⟩
      unfold dj
      rw [fa _ (by omega) (by omega),decide_eq_false (by omega)];rfl
     simp only [stop]
     rw [if_pos (by simp;omega)];rfl
theorem wy (ts:List GTask) (hs:am.sm ts) (hg:cN ts):∀ (l:List GTask) (i:Nat) (o:List Int),o.length+l.length≤1000→fE ts l i o=some (.x0 (iu ts l.length o))
 | [],i,o,_=>rfl
 | x::l,i,o,hl=>by
  have h4:=hg.1
  simp only [List.length_cons] at hl
  unfold fE
  have r:=EI ts hs hg o (by omega) ts.length 0 9223372036854775808 (by omega) (by omega)
  rw [List.drop_zero] at r
  refine (congrArg (Option.bind · _) r).trans ?_
  rw [Option.bind_some]
  simp only [List.length_cons]
  unfold iu
  cases q:eB o ts ts 0 with
  | none =>
   simp only
   rw [wy ts hs hg l (i+1) o (by omega)]
   have:∀ k,iu ts k o=o:=fun k=>by
    cases k with
    | zero=>rfl
    | succ k=>unfold iu;rw [q]
   rw [this]
  | some k =>
   simp only
   exact wy ts hs hg l (i+1) _ (by simp;omega)
theorem Jd (ts:List GTask) (hs:am.sm ts) (hg:cN ts):mL ts=some (da ts):=by
 have h4:=hg.1
 unfold mL
 rw [if_pos (by omega),wy ts hs hg ts 0 [] (by simp;omega)]
 rfl
theorem tC {q0:Kd} (x0:List GTask) (h:am.sm x0) (hg:cN x0):Does E 19 [.one (.s .far () 5 (x0.map (GTask.t q0)))] [(false,[.s .own () 1 ((da x0).map etI)])]:=by
 exact CL x0 _ (Jd x0 h hg)
end Go.Proofs.YtdcbjglpdbcjpaaGreatDoor.Am
namespace Go.Proofs.YtdcbjglpdbcjpaaGreatDoor.Am
open Go Go.Proofs Classical
set_option maxRecDepth 100000
set_option linter.unusedVariables false
set_option linter.unusedSimpArgs false
inductive vx where
 | ret (v2:Bool)
 | x0 
def eV (v1_0 v1_1:ByteArray) (v1_2:Int) (v1_3:Bool) (v1_4 v28:List ByteArray) (v29 v30:Int):US:=stL 54 [(1,.box () [tS v1_0,tS v1_1,tI v1_2,tB v1_3,.s .far () 1 (v1_4.map etS)]),(28,.one (.s .far () 1 (v28.map etS))),(29,.one (tI v29)),(30,.one (tI v30))]
def ko (zv2:Bool):US:=stL 54 [(2,.one (tB zv2))]
def nQ  : US:=stL 54 []
abbrev kY:US→Exit→US→Prop:=Round E 48 (aw Tryz.f48 0)
def DH (v1_0 v1_1:ByteArray) (v1_2:Int) (v1_3:Bool) (v1_4 v28:List ByteArray) (v29 v30:Int):vx→Prop
 | .ret zv2=>Loops E 48 (aw Tryz.f48 0) (eV v1_0 v1_1 v1_2 v1_3 v1_4 v28 v29 v30) .ret (ko zv2)
 | .x0=>Loops E 48 (aw Tryz.f48 0) (eV v1_0 v1_1 v1_2 v1_3 v1_4 v28 v29 v30) (.exit 0) (nQ)
noncomputable def fN (v1_0:ByteArray) (v1_4:List ByteArray):List ByteArray→Nat→Bool→Option vx
 | [],i,v1_3=>some (.x0)
 | hd::rest,i,v1_3=>cond (hd.toList==v1_0.toList)
  (some (.ret false))
  (cond (decide ((i:Int)>(0:Int)))
   ((aA v1_4 (IntKind.wrap .i64 ((i:Int)-(1:Int)))).bind fun g1=>cond (Op.bytesLess hd.toList g1.toList || hd.toList==g1.toList)
    (some (.ret false))
    (fN v1_0 v1_4 rest (i+1) v1_3))
   (fN v1_0 v1_4 rest (i+1) v1_3))
theorem DG (v1_0 v1_1:ByteArray) (v1_2:Int) (v1_4 v28:List ByteArray) (rest:List ByteArray):∀ (i:Nat) (v1_3:Bool),(v28).drop i=rest→v28.length≤9223372036854775807→Ans (fN v1_0 v1_4 rest i v1_3) (DH v1_0 v1_1 v1_2 v1_3 v1_4 v28 (v28.length:Int) (i:Int)):=by
 induction rest with
 | nil =>
  intro i v1_3 hE hl
  have hb:=bo hE
  unfold fN
  exact KX (KZ (show kY (eV v1_0 v1_1 v1_2 v1_3 v1_4 v28 (v28.length:Int) (i:Int)) (.exit 0) (nQ) from RP [.b false] (AC hb<|AN)) (by intro h;cases h))
 | cons hd rest ih =>
  intro i v1_3 hE hl
  have hb:=aY hE
  have hw:=aZ hE hl
  have hE2:=aH hE
  have hg:=bc hE
  unfold fN
  apply K0<;>intro h2
  ·exact KX (KZ (show kY (eV v1_0 v1_1 v1_2 v1_3 v1_4 v28 (v28.length:Int) (i:Int)) .ret (ko false) from RP [.b true,.row (etS hd),.b true] (AC hb<|AR etS hg<|AC h2<|AN)) (by intro h;cases h))
  ·apply K0<;>intro h3
   ·refine K1 (fun g1 h4 => ?_)
    apply K0<;>intro h5
    ·exact KX (KZ (show kY (eV v1_0 v1_1 v1_2 v1_3 v1_4 v28 (v28.length:Int) (i:Int)) .ret (ko false) from RP [.b true,.row (etS hd),.b false,.b true,.row (etS g1),.b true] (AC hb<|AR etS hg<|AC h2<|AC h3<|AR etS h4<|AC h5<|AN)) (by intro h;cases h))
    ·exact (ih (i+1) v1_3 hE2 hl).mono fun y hy=>by have r:kY (eV v1_0 v1_1 v1_2 v1_3 v1_4 v28 (v28.length:Int) (i:Int)) .normal (eV v1_0 v1_1 v1_2 v1_3 v1_4 v28 (v28.length:Int) (inc (i:Int))):=RP [.b true,.row (etS hd),.b false,.b true,.row (etS g1),.b false] (AC hb<|AR etS hg<|AC h2<|AC h3<|AR etS h4<|AC h5<|AN);rw [hw] at r;cases y<;>exact KY r hy
   ·exact (ih (i+1) v1_3 hE2 hl).mono fun y hy=>by have r:kY (eV v1_0 v1_1 v1_2 v1_3 v1_4 v28 (v28.length:Int) (i:Int)) .normal (eV v1_0 v1_1 v1_2 v1_3 v1_4 v28 (v28.length:Int) (inc (i:Int))):=RP [.b true,.row (etS hd),.b false,.b false] (AC hb<|AR etS hg<|AC h2<|AC h3<|AN);rw [hw] at r;cases y<;>exact KY r hy
noncomputable def ou (x0:GTask):Option (Bool) :=
  if x0.f0.size≤2000000 then cond (dM x0.f0)
   (cond ((bK x0.f1)==(0:Int))
    (some (false))
    (cond (aM x0.f2 (0:Int) (3:Int))
     (cond (decide ((x0.f4.length:Int)>(4:Int)))
      (some (false))
      (if x0.f4.length≤9223372036854775807 then (fN x0.f0 x0.f4 x0.f4 0 x0.f3).bind fun y=>match y with
       | .ret w0_2=>(some (w0_2))
       | .x0=>(some (true)) else none))
     (some (false))))
   (some (false)) else none
theorem FC (x0:GTask):Ans (ou x0) (fun r=>Does E 48 [.agg (GTask.t .far x0)] [(false,[tB r])]):=by
 unfold ou
 refine K2 (fun h0 => ?_)
 apply K0<;>intro h1
 ·apply K0<;>intro h2
  ·exact KX (DP Tryz.f48 [rT,.ret [(false,[tI (bK x0.f1)])],.b true] (AD (K5 (cR x0.f0 h0) h1)<|AD (jH x0.f1)<|AC h2<|AN))
  ·apply K0<;>intro h3
   ·apply K0<;>intro h4
    ·exact KX (DP Tryz.f48 [rT,.ret [(false,[tI (bK x0.f1)])],.b false,rT,.val (.int .i64 (x0.f4.length:Int)),.b true] (AD (K5 (cR x0.f0 h0) h1)<|AD (jH x0.f1)<|AC h2<|AD (K5 (de x0.f2 (0:Int) (3:Int)) h3)<|ALn x0.f4 etS<|AC h4<|AN))
    ·refine K2 (fun hl5 => ?_)
     refine K1 (fun y hy => ?_)
     replace hy:=DG x0.f0 x0.f1 x0.f2 x0.f4 x0.f4 x0.f4 0 x0.f3 rfl hl5 y hy
     cases y with
     | ret w0_2 =>
      have h5:=hy
      exact KX (DP Tryz.f48 [rT,.ret [(false,[tI (bK x0.f1)])],.b false,rT,.val (.int .i64 (x0.f4.length:Int)),.b false,.val (.int .i64 (x0.f4.length:Int)),.lp .ret (ko w0_2)] (AD (K5 (cR x0.f0 h0) h1)<|AD (jH x0.f1)<|AC h2<|AD (K5 (de x0.f2 (0:Int) (3:Int)) h3)<|ALn x0.f4 etS<|AC h4<|ALn x0.f4 etS<|AL h5<|AN))
     | x0 =>
      have h5:=hy
      exact KX (DP Tryz.f48 [rT,.ret [(false,[tI (bK x0.f1)])],.b false,rT,.val (.int .i64 (x0.f4.length:Int)),.b false,.val (.int .i64 (x0.f4.length:Int)),.lp (.exit 0) (nQ)] (AD (K5 (cR x0.f0 h0) h1)<|AD (jH x0.f1)<|AC h2<|AD (K5 (de x0.f2 (0:Int) (3:Int)) h3)<|ALn x0.f4 etS<|AC h4<|ALn x0.f4 etS<|AL h5<|AN))
   ·exact KX (DP Tryz.f48 [rT,.ret [(false,[tI (bK x0.f1)])],.b false,rF] (AD (K5 (cR x0.f0 h0) h1)<|AD (jH x0.f1)<|AC h2<|AD (K5 (de x0.f2 (0:Int) (3:Int)) h3)<|AN))
 ·exact KX (DP Tryz.f48 [rF] (AD (K5 (cR x0.f0 h0) h1)<|AN))
inductive uO where
 | ret (v4:Bool)
 | x0 
def bv (q0:Kd) (v0:List GTask) (v5_0 v5_1:ByteArray) (v5_2:Int) (v5_3:Bool) (v5_4:List ByteArray) (v6:Int):US:=stL 78 [(0,.one (.s .far () 5 (v0.map (GTask.t q0)))),(5,.box () [tS v5_0,tS v5_1,tI v5_2,tB v5_3,.s .far () 1 (v5_4.map etS)]),(6,.one (tI v6))]
def dF (q0:Kd) (zv4:Bool):US:=stL 78 [(4,.one (tB zv4))]
def kC (q0:Kd)  : US:=stL 78 []
abbrev cF:US→Exit→US→Prop:=Round E 38 (aw Tryz.f38 0)
def CN {q0:Kd} (v0:List GTask) (v5_0 v5_1:ByteArray) (v5_2:Int) (v5_3:Bool) (v5_4:List ByteArray) (v6:Int):uO→Prop
 | .ret zv4=>Loops E 38 (aw Tryz.f38 0) (bv q0 v0 v5_0 v5_1 v5_2 v5_3 v5_4 v6) .ret (dF q0 zv4)
 | .x0=>Loops E 38 (aw Tryz.f38 0) (bv q0 v0 v5_0 v5_1 v5_2 v5_3 v5_4 v6) (.exit 0) (kC q0)
theorem yQ {q0:Kd} (v0:List GTask) (v5_0 v5_1:ByteArray) (v5_2:Int) (v5_3:Bool) (v5_4:List ByteArray) (v6:Int) (g0:ByteArray) (h0:(decide (v6<(v5_4.length:Int)))=true) (h1:aA v5_4 v6=some g0) (h2:v0.length≤1050000) (h3:(decide ((ao v0 g0)<(0:Int)))=true):cF (bv q0 v0 v5_0 v5_1 v5_2 v5_3 v5_4 v6) .ret (dF q0 false) :=
 RP [.val (.int .i64 (v5_4.length:Int)),.b true,.row (etS g0),.ret [(false,[tI (ao v0 g0)])],.b true] (ALn v5_4 etS<|AC h0<|AR etS h1<|AV (ψ:=fun k=>E.C k 40 [.one (.s .far () 5 (v0.map (GTask.t q0))),.one (tS g0)]=some [(false,[tI (ao v0 g0)])]) (e8 v0 g0 h2)<|AC h3<|AN)
theorem yR {q0:Kd} (v0:List GTask) (v5_0 v5_1:ByteArray) (v5_2:Int) (v5_3:Bool) (v5_4:List ByteArray) (v6:Int) (g0:ByteArray) (h0:(decide (v6<(v5_4.length:Int)))=true) (h1:aA v5_4 v6=some g0) (h2:v0.length≤1050000) (h3:(decide ((ao v0 g0)<(0:Int)))=false) (h4:(g0.toList==v5_0.toList)=true):cF (bv q0 v0 v5_0 v5_1 v5_2 v5_3 v5_4 v6) .ret (dF q0 false) :=
 RP [.val (.int .i64 (v5_4.length:Int)),.b true,.row (etS g0),.ret [(false,[tI (ao v0 g0)])],.b false,.row (etS g0),.b true] (ALn v5_4 etS<|AC h0<|AR etS h1<|AV (ψ:=fun k=>E.C k 40 [.one (.s .far () 5 (v0.map (GTask.t q0))),.one (tS g0)]=some [(false,[tI (ao v0 g0)])]) (e8 v0 g0 h2)<|AC h3<|AR etS h1<|AC h4<|AN)
theorem yS {q0:Kd} (v0:List GTask) (v5_0 v5_1:ByteArray) (v5_2:Int) (v5_3:Bool) (v5_4:List ByteArray) (v6:Int) (g0 g1:ByteArray) (h0:(decide (v6<(v5_4.length:Int)))=true) (h1:aA v5_4 v6=some g0) (h2:v0.length≤1050000) (h3:(decide ((ao v0 g0)<(0:Int)))=false) (h4:(g0.toList==v5_0.toList)=false) (h5:(decide (v6>(0:Int)))=true) (h6:aA v5_4 (IntKind.wrap .i64 (v6-(1:Int)))=some g1) (h7:(!Op.bytesLess g1.toList g0.toList)=true):cF (bv q0 v0 v5_0 v5_1 v5_2 v5_3 v5_4 v6) .ret (dF q0 false) :=
 RP [.val (.int .i64 (v5_4.length:Int)),.b true,.row (etS g0),.ret [(false,[tI (ao v0 g0)])],.b false,.row (etS g0),.b false,.b true,.row (etS g1),.row (etS g0),.b true] (ALn v5_4 etS<|AC h0<|AR etS h1<|AV (ψ:=fun k=>E.C k 40 [.one (.s .far () 5 (v0.map (GTask.t q0))),.one (tS g0)]=some [(false,[tI (ao v0 g0)])]) (e8 v0 g0 h2)<|AC h3<|AR etS h1<|AC h4<|AC h5<|AR etS h6<|AR etS h1<|AC h7<|AN)
theorem yT {q0:Kd} (v0:List GTask) (v5_0 v5_1:ByteArray) (v5_2:Int) (v5_3:Bool) (v5_4:List ByteArray) (v6:Int) (g0 g1:ByteArray) (h0:(decide (v6<(v5_4.length:Int)))=true) (h1:aA v5_4 v6=some g0) (h2:v0.length≤1050000) (h3:(decide ((ao v0 g0)<(0:Int)))=false) (h4:(g0.toList==v5_0.toList)=false) (h5:(decide (v6>(0:Int)))=true) (h6:aA v5_4 (IntKind.wrap .i64 (v6-(1:Int)))=some g1) (h7:(!Op.bytesLess g1.toList g0.toList)=false):cF (bv q0 v0 v5_0 v5_1 v5_2 v5_3 v5_4 v6) .normal (bv q0 v0 v5_0 v5_1 v5_2 v5_3 v5_4 (inc v6)) :=
 RP [.val (.int .i64 (v5_4.length:Int)),.b true,.row (etS g0),.ret [(false,[tI (ao v0 g0)])],.b false,.row (etS g0),.b false,.b true,.row (etS g1),.row (etS g0),.b false] (ALn v5_4 etS<|AC h0<|AR etS h1<|AV (ψ:=fun k=>E.C k 40 [.one (.s .far () 5 (v0.map (GTask.t q0))),.one (tS g0)]=some [(false,[tI (ao v0 g0)])]) (e8 v0 g0 h2)<|AC h3<|AR etS h1<|AC h4<|AC h5<|AR etS h6<|AR etS h1<|AC h7<|AN)
theorem yU {q0:Kd} (v0:List GTask) (v5_0 v5_1:ByteArray) (v5_2:Int) (v5_3:Bool) (v5_4:List ByteArray) (v6:Int) (g0:ByteArray) (h0:(decide (v6<(v5_4.length:Int)))=true) (h1:aA v5_4 v6=some g0) (h2:v0.length≤1050000) (h3:(decide ((ao v0 g0)<(0:Int)))=false) (h4:(g0.toList==v5_0.toList)=false) (h5:(decide (v6>(0:Int)))=false):cF (bv q0 v0 v5_0 v5_1 v5_2 v5_3 v5_4 v6) .normal (bv q0 v0 v5_0 v5_1 v5_2 v5_3 v5_4 (inc v6)) :=
 RP [.val (.int .i64 (v5_4.length:Int)),.b true,.row (etS g0),.ret [(false,[tI (ao v0 g0)])],.b false,.row (etS g0),.b false,.b false] (ALn v5_4 etS<|AC h0<|AR etS h1<|AV (ψ:=fun k=>E.C k 40 [.one (.s .far () 5 (v0.map (GTask.t q0))),.one (tS g0)]=some [(false,[tI (ao v0 g0)])]) (e8 v0 g0 h2)<|AC h3<|AR etS h1<|AC h4<|AC h5<|AN)
theorem yV {q0:Kd} (v0:List GTask) (v5_0 v5_1:ByteArray) (v5_2:Int) (v5_3:Bool) (v5_4:List ByteArray) (v6:Int) (h0:(decide (v6<(v5_4.length:Int)))=false):cF (bv q0 v0 v5_0 v5_1 v5_2 v5_3 v5_4 v6) (.exit 0) (kC q0) :=
 RP [.val (.int .i64 (v5_4.length:Int)),.b false] (ALn v5_4 etS<|AC h0<|AN)
noncomputable def fg (v0:List GTask) (v5_0:ByteArray) (v5_4:List ByteArray):List ByteArray→Nat→Bool→Option uO
 | [],i,v5_3=>some (.x0)
 | hd::rest,i,v5_3=>if v0.length≤1050000 then cond (decide ((ao v0 hd)<(0:Int)))
  (some (.ret false))
  (cond (hd.toList==v5_0.toList)
   (some (.ret false))
   (cond (decide ((i:Int)>(0:Int)))
    ((aA v5_4 (IntKind.wrap .i64 ((i:Int)-(1:Int)))).bind fun g1=>cond (!Op.bytesLess g1.toList hd.toList)
     (some (.ret false))
     (fg v0 v5_0 v5_4 rest (i+1) v5_3))
    (fg v0 v5_0 v5_4 rest (i+1) v5_3))) else none
theorem CM {q0:Kd} (v0:List GTask) (v5_0 v5_1:ByteArray) (v5_2:Int) (v5_4:List ByteArray) (rest:List ByteArray):∀ (i:Nat) (v5_3:Bool),(v5_4).drop i=rest→v5_4.length≤9223372036854775807→Ans (fg v0 v5_0 v5_4 rest i v5_3) (CN (q0:=q0) v0 v5_0 v5_1 v5_2 v5_3 v5_4 (i:Int)):=by
 induction rest with
 | nil =>
  intro i v5_3 hE hl
  have hb:=bo hE
  unfold fg
  exact KX (KZ (show cF (bv q0 v0 v5_0 v5_1 v5_2 v5_3 v5_4 (i:Int)) (.exit 0) (kC q0) from yV (q0:=q0) v0 v5_0 v5_1 v5_2 v5_3 v5_4 (i:Int) hb) (by intro h;cases h))
 | cons hd rest ih =>
  intro i v5_3 hE hl
  have hb:=aY hE
  have hw:=aZ hE hl
  have hE2:=aH hE
  have hg:=bc hE
  unfold fg
  refine K2 (fun h2 => ?_)
  apply K0<;>intro h3
  ·exact KX (KZ (show cF (bv q0 v0 v5_0 v5_1 v5_2 v5_3 v5_4 (i:Int)) .ret (dF q0 false) from yQ (q0:=q0) v0 v5_0 v5_1 v5_2 v5_3 v5_4 (i:Int) hd hb hg h2 h3) (by intro h;cases h))
  ·apply K0<;>intro h4
   ·exact KX (KZ (show cF (bv q0 v0 v5_0 v5_1 v5_2 v5_3 v5_4 (i:Int)) .ret (dF q0 false) from yR (q0:=q0) v0 v5_0 v5_1 v5_2 v5_3 v5_4 (i:Int) hd hb hg h2 h3 h4) (by intro h;cases h))
   ·apply K0<;>intro h5
    ·refine K1 (fun g1 h6 => ?_)
     apply K0<;>intro h7
     ·exact KX (KZ (show cF (bv q0 v0 v5_0 v5_1 v5_2 v5_3 v5_4 (i:Int)) .ret (dF q0 false) from yS (q0:=q0) v0 v5_0 v5_1 v5_2 v5_3 v5_4 (i:Int) hd g1 hb hg h2 h3 h4 h5 h6 h7) (by intro h;cases h))
     ·exact (ih (i+1) v5_3 hE2 hl).mono fun y hy=>by have r:cF (bv q0 v0 v5_0 v5_1 v5_2 v5_3 v5_4 (i:Int)) .normal (bv q0 v0 v5_0 v5_1 v5_2 v5_3 v5_4 (inc (i:Int))):=yT (q0:=q0) v0 v5_0 v5_1 v5_2 v5_3 v5_4 (i:Int) hd g1 hb hg h2 h3 h4 h5 h6 h7;rw [hw] at r;cases y<;>exact KY r hy
    ·exact (ih (i+1) v5_3 hE2 hl).mono fun y hy=>by have r:cF (bv q0 v0 v5_0 v5_1 v5_2 v5_3 v5_4 (i:Int)) .normal (bv q0 v0 v5_0 v5_1 v5_2 v5_3 v5_4 (inc (i:Int))):=yU (q0:=q0) v0 v5_0 v5_1 v5_2 v5_3 v5_4 (i:Int) hd hb hg h2 h3 h4 h5;rw [hw] at r;cases y<;>exact KY r hy
noncomputable def nw (x0:List GTask) (x1:Int):Option (Bool) :=
  (aA x0 x1).bind fun g0=>if g0.f0.size≤2000000 then cond (dM g0.f0)
   (if x0.length≤1050000 then cond ((ao x0 g0.f0) != x1)
    (some (false))
    (cond ((bK g0.f1)==(0:Int))
     (some (false))
     (cond (aM g0.f2 (0:Int) (3:Int))
      (if g0.f4.length≤9223372036854775807 then (fg x0 g0.f0 g0.f4 g0.f4 0 g0.f3).bind fun y=>match y with
       | .ret w0_4=>(some (w0_4))
       | .x0=>(some (true)) else none)
      (some (false)))) else none)
   (some (false)) else none
theorem Ea {q0:Kd} (x0:List GTask) (x1:Int):Ans (nw x0 x1) (fun r=>Does E 38 [.one (.s .far () 5 (x0.map (GTask.t q0))),.one (tI x1)] [(false,[tB r])]):=by
 unfold nw
 refine K1 (fun g0 h0 => ?_)
 refine K2 (fun h1 => ?_)
 apply K0<;>intro h2
 ·refine K2 (fun h3 => ?_)
  apply K0<;>intro h4
  ·exact KX (DP Tryz.f38 [.row ((GTask.t q0) g0),rT,.ret [(false,[tI (ao x0 g0.f0)])],.b true] (AR (GTask.t q0) h0<|AD (K5 (cw g0.f0 h1) h2)<|AV (ψ:=fun k=>E.C k 40 [.one (.s .far () 5 (x0.map (GTask.t q0))),.one (tS g0.f0)]=some [(false,[tI (ao x0 g0.f0)])]) (e8 x0 g0.f0 h3)<|AC h4<|AN))
  ·apply K0<;>intro h5
   ·exact KX (DP Tryz.f38 [.row ((GTask.t q0) g0),rT,.ret [(false,[tI (ao x0 g0.f0)])],.b false,.ret [(false,[tI (bK g0.f1)])],.b true] (AR (GTask.t q0) h0<|AD (K5 (cw g0.f0 h1) h2)<|AV (ψ:=fun k=>E.C k 40 [.one (.s .far () 5 (x0.map (GTask.t q0))),.one (tS g0.f0)]=some [(false,[tI (ao x0 g0.f0)])]) (e8 x0 g0.f0 h3)<|AC h4<|AD (l3 g0.f1)<|AC h5<|AN))
   ·apply K0<;>intro h6
    ·refine K2 (fun hl5 => ?_)
     refine K1 (fun y hy => ?_)
     replace hy:=CM (q0:=q0) x0 g0.f0 g0.f1 g0.f2 g0.f4 g0.f4 0 g0.f3 rfl hl5 y hy
     cases y with
     | ret w0_4 =>
      have h7:=hy
      exact KX (DP Tryz.f38 [.row ((GTask.t q0) g0),rT,.ret [(false,[tI (ao x0 g0.f0)])],.b false,.ret [(false,[tI (bK g0.f1)])],.b false,rT,.lp .ret (dF q0 w0_4)] (AR (GTask.t q0) h0<|AD (K5 (cw g0.f0 h1) h2)<|AV (ψ:=fun k=>E.C k 40 [.one (.s .far () 5 (x0.map (GTask.t q0))),.one (tS g0.f0)]=some [(false,[tI (ao x0 g0.f0)])]) (e8 x0 g0.f0 h3)<|AC h4<|AD (l3 g0.f1)<|AC h5<|AD (K5 (bz g0.f2 (0:Int) (3:Int)) h6)<|AL h7<|AN))
     | x0 =>
      have h7:=hy
      exact KX (DP Tryz.f38 [.row ((GTask.t q0) g0),rT,.ret [(false,[tI (ao x0 g0.f0)])],.b false,.ret [(false,[tI (bK g0.f1)])],.b false,rT,.lp (.exit 0) (kC q0)] (AR (GTask.t q0) h0<|AD (K5 (cw g0.f0 h1) h2)<|AV (ψ:=fun k=>E.C k 40 [.one (.s .far () 5 (x0.map (GTask.t q0))),.one (tS g0.f0)]=some [(false,[tI (ao x0 g0.f0)])]) (e8 x0 g0.f0 h3)<|AC h4<|AD (l3 g0.f1)<|AC h5<|AD (K5 (bz g0.f2 (0:Int) (3:Int)) h6)<|AL h7<|AN))
    ·exact KX (DP Tryz.f38 [.row ((GTask.t q0) g0),rT,.ret [(false,[tI (ao x0 g0.f0)])],.b false,.ret [(false,[tI (bK g0.f1)])],.b false,rF] (AR (GTask.t q0) h0<|AD (K5 (cw g0.f0 h1) h2)<|AV (ψ:=fun k=>E.C k 40 [.one (.s .far () 5 (x0.map (GTask.t q0))),.one (tS g0.f0)]=some [(false,[tI (ao x0 g0.f0)])]) (e8 x0 g0.f0 h3)<|AC h4<|AD (l3 g0.f1)<|AC h5<|AD (K5 (bz g0.f2 (0:Int) (3:Int)) h6)<|AN))
 ·exact KX (DP Tryz.f38 [.row ((GTask.t q0) g0),rF] (AR (GTask.t q0) h0<|AD (K5 (cw g0.f0 h1) h2)<|AN))
def asc (self:ByteArray):List ByteArray→Option ByteArray→Bool
 | [],_=>true
 | x::l,p => !(x.toList==self.toList)&&(match p with | some y=>Op.bytesLess y.toList x.toList | none=>true)&&asc self l (some x)
theorem B7:∀ a b:List UInt8,(Op.bytesLess a b || a==b) = !Op.bytesLess b a
 | [],[]=>rfl
 | [],_::_=>rfl
 | _::_,[]=>rfl
 | x::a,y::b=>by
  have ih:=B7 a b
  unfold Op.bytesLess
  have e:(x::a==y::b)=(x==y&&a==b):=rfl
  rw [e]
  rcases Nat.lt_trichotomy x.toNat y.toNat with h | h | h
  ·have h1:x<y:=UInt8.lt_iff_toNat_lt.2 h
   have h2:¬ y<x:=fun q=>by have:=UInt8.lt_iff_toNat_lt.1 q;omega
   have h3:(y==x)=false:=by rw [beq_eq_false_iff_ne];intro q;subst q;omega
   simp [h1,h2,h3]
  ·have h0:x=y:=UInt8.toNat_inj.1 h
   subst h0
   have h2:¬ x<x:=fun q=>by have:=UInt8.lt_iff_toNat_lt.1 q;omega
   simp only [h2,decide_false,Bool.false_or,beq_self_eq_true,Bool.true_and]
   exact ih
  ·have h1:y<x:=UInt8.lt_iff_toNat_lt.2 h
   have h2:¬ x<y:=fun q=>by have:=UInt8.lt_iff_toNat_lt.1 q;omega
   have h3:(x==y)=false:=by rw [beq_eq_false_iff_ne];intro q;subst q;omega
   simp [h1,h2,h3]
theorem vz:∀ a:List UInt8,Op.bytesLess a a=false
 | []=>rfl
 | x::a=>by
  unfold Op.bytesLess
  have h2:¬ x<x:=fun q=>by have:=UInt8.lt_iff_toNat_lt.1 q;omega
  simp [h2,vz a]
theorem xu:∀ {a b c:List UInt8},Op.bytesLess a b=true→Op.bytesLess b c=true→Op.bytesLess a c=true
 | [],[],_,h,_=>by cases h
 | [],_::_,[],_,h=>by cases h
 | [],_::_,_::_,_,_=>rfl
 | _::_,[],_,h,_=>by cases h
 | _::_,_::_,[],_,h=>by cases h
 | x::a,y::b,z::c,h1,h2=>by
  unfold Op.bytesLess at *
  simp only [Bool.or_eq_true,decide_eq_true_eq,Bool.and_eq_true,beq_iff_eq,UInt8.lt_iff_toNat_lt] at *
  rcases h1 with h1 | ⟨rfl,h1⟩
  ·rcases h2 with h2 | ⟨rfl,h2⟩
   ·exact .inl (by omega)
   ·exact .inl h1
  ·rcases h2 with h2 | ⟨rfl,h2⟩
   ·exact .inl h2
   ·exact .inr ⟨rfl,xu h1 h2⟩
theorem pG (self:ByteArray):∀ (l:List ByteArray) (p:Option ByteArray),asc self l p=true→(l.map tx).Nodup∧∀ y,p=some y→∀ x∈l,Op.bytesLess (tx y) (tx x)=true
 | [],p,_=>⟨by simp,fun y _ x hx=>by cases hx⟩
 | z::l,p,h=>by
  unfold asc at h
  simp only [Bool.and_eq_true] at h
  obtain ⟨h1,h2⟩:=pG self l (some z) h.2
  have h3:=h2 z rfl
  refine ⟨?_,fun y e x hx => ?_⟩
  ·rw [List.map_cons,List.nodup_cons]
   refine ⟨fun q => ?_,h1⟩
   obtain ⟨w,hw,e⟩:=List.mem_map.1 q
   have:=h3 w hw
   rw [e,vz] at this
   cases this
  ·subst e
   have h4:Op.bytesLess (tx y) (tx z)=true:=by have:=h.1.2;simp only [x7] at this;exact this
   rcases List.mem_cons.1 hx with rfl | hx
   ·exact h4
   ·exact xu h4 (h3 x hx)
theorem EN {α:Type} [DecidableEq α]:∀ {l m:List α},l.Nodup→(∀ x∈l,x∈m)→l.length≤m.length
 | [],_,_,_=>Nat.zero_le _
 | x::l,m,h,hm=>by
  rw [List.nodup_cons] at h
  have hx:=hm x (by simp)
  have:=EN (l:=l) (m:=m.erase x) h.2 fun y hy=>(List.mem_erase_of_ne (fun e=>h.1 (by rw [← e];exact hy))).2 (hm y (by simp [hy]))
  rw [List.length_erase_of_mem hx] at this
  have:0<m.length:=List.length_pos_of_mem hx
  simp only [List.length_cons]
  omega
theorem Iy (self:ByteArray) (aD:List ByteArray) (hl:aD.length≤1050000):∀ (rest:List ByteArray) (i:Nat) (z:Bool),aD.drop i=rest→fN self aD rest i z=some (cond (asc self rest (if i=0 then none else aD[i-1]?)) .x0 (.ret false))
 | [],i,z,_=>rfl
 | x::rest,i,z,h=>by
  have ih:=Iy self aD hl rest (i+1) z (aH h)
  have hp:(if i+1=0 then none else aD[i+1-1]?)=some x:=by
   rw [if_neg (by omega)]
   show aD[i]?=some x
   rw [← List.head?_drop,h];rfl
  rw [hp] at ih
  unfold fN asc
  rw [ih]
  cases x.toList==self.toList with
  | true=>rfl
  | false =>
   rw [cond_false]
   by_cases q:i=0
   ·subst q
    rw [decide_eq_false (by omega),if_pos rfl,cond_false];rfl
   ·have hi:i-1<aD.length:=by
     rcases Nat.lt_or_ge i aD.length with g | g
     ·omega
     ·rw [List.drop_eq_nil_of_le g] at h;cases h
    have hi2:i≤aD.length:=by
     rcases Nat.lt_or_ge i aD.length with g | g
     ·omega
     ·rw [List.drop_eq_nil_of_le g] at h;cases h
    have hy:aD[i-1]?=some aD[i-1]:=List.getElem?_eq_getElem hi
    have hg:aA aD (IntKind.wrap .i64 ((i:Int)-1))=some aD[i-1]:=by
     rw [du _ (by omega) (by omega),show ((i:Int)-1)=((i-1:Nat):Int) by omega,es,hy]
    rw [decide_eq_true (by omega),if_neg q,cond_true,hg,Option.bind_some,hy,B7]
    simp only [Bool.not_false,Bool.true_and]
    cases Op.bytesLess aD[i-1].toList x.toList<;>rfl
theorem Iz (ts:List GTask) (ht:ts.length≤1050000) (self:ByteArray) (aD:List ByteArray) (hl:aD.length≤1050000):∀ (rest:List ByteArray) (i:Nat) (z:Bool),aD.drop i=rest→fg ts self aD rest i z=some (cond (asc self rest (if i=0 then none else aD[i-1]?)&&rest.all fun n=>decide (0≤ao ts n)) .x0 (.ret false))
 | [],i,z,_=>rfl
 | x::rest,i,z,h=>by
  have ih:=Iz ts ht self aD hl rest (i+1) z (aH h)
  have hp:(if i+1=0 then none else aD[i+1-1]?)=some x:=by
   rw [if_neg (by omega)]
   show aD[i]?=some x
   rw [← List.head?_drop,h];rfl
  rw [hp] at ih
  unfold fg asc
  rw [ih,if_pos ht,List.all_cons]
  by_cases w:ao ts x<0
  ·rw [decide_eq_true w,decide_eq_false (by omega:¬ 0≤ao ts x),Bool.false_and,Bool.and_false];rfl
  ·rw [decide_eq_false w,decide_eq_true (by omega:0≤ao ts x),Bool.true_and,cond_false]
   cases x.toList==self.toList with
   | true=>rfl
   | false =>
    rw [cond_false]
    by_cases q:i=0
    ·subst q
     rw [decide_eq_false (by omega),if_pos rfl,cond_false];rfl
    ·have hi:i-1<aD.length:=by
      rcases Nat.lt_or_ge i aD.length with g | g
      ·omega
      ·rw [List.drop_eq_nil_of_le g] at h;cases h
     have hi2:i≤aD.length:=by
      rcases Nat.lt_or_ge i aD.length with g | g
      ·omega
      ·rw [List.drop_eq_nil_of_le g] at h;cases h
     have hy:aD[i-1]?=some aD[i-1]:=List.getElem?_eq_getElem hi
     have hg:aA aD (IntKind.wrap .i64 ((i:Int)-1))=some aD[i-1]:=by
      rw [du _ (by omega) (by omega),show ((i:Int)-1)=((i-1:Nat):Int) by omega,es,hy]
     rw [decide_eq_true (by omega),if_neg q,cond_true,hg,Option.bind_some,hy]
     simp only [Bool.not_false,Bool.true_and]
     cases Op.bytesLess aD[i-1].toList x.toList<;>rfl
noncomputable def px (t:GTask):Bool:=dM t.f0&&((bK t.f1 != 0)&&(aM t.f2 0 3&&(decide (t.f4.length≤4)&&asc t.f0 t.f4 none)))
noncomputable def ib (ts:List GTask) (i:Int) (t:GTask):Bool:=dM t.f0&&((ao ts t.f0==i)&&((bK t.f1 != 0)&&(aM t.f2 0 3&&(asc t.f0 t.f4 none&&t.f4.all fun n=>decide (0≤ao ts n)))))
noncomputable def lX (ts:List GTask) (i:Int):Bool:=match aA ts i with | some t=>ib ts i t | none=>false
theorem EM {t:GTask} (h:am.sm t):t.f0.size≤2000000:=by
 have:t.f0.size≤1050000:=h.1
 omega
theorem Iu (t:GTask) (h:am.sm t):ou t=some (px t):=by
 have h4:t.f4.length≤1050000:=h.2.2.1
 unfold ou px
 rw [if_pos (EM h)]
 cases dM t.f0 with
 | false=>rfl
 | true =>
  have e:(bK t.f1 != 0) = !(bK t.f1==0):=rfl
  rw [cond_true,Bool.true_and,e]
  cases bK t.f1==0 with
  | true=>rfl
  | false =>
   rw [cond_false,Bool.not_false,Bool.true_and]
   cases aM t.f2 0 3 with
   | false=>rfl
   | true =>
    rw [cond_true,Bool.true_and]
    by_cases q:t.f4.length≤4
    ·rw [decide_eq_false (by omega),cond_false,decide_eq_true q,if_pos (by omega),Iy t.f0 t.f4 h4 t.f4 0 t.f3 rfl,if_pos rfl,Bool.true_and]
     cases asc t.f0 t.f4 none<;>rfl
    ·rw [decide_eq_true (by omega),decide_eq_false q];rfl
theorem El (ts:List GTask) (i:Int) (h:am.sm ts) (hi:0≤i∧i<(ts.length:Int)):nw ts i=some (lX ts i):=by
 obtain ⟨t,hg,hm⟩:=lR hi
 have ht:=h.2 t hm
 have h4:t.f4.length≤1050000:=ht.2.2.1
 unfold nw lX ib
 rw [hg,Option.bind_some,if_pos (EM ht)]
 simp only
 cases dM t.f0 with
 | false=>rfl
 | true =>
  have e1:(ao ts t.f0 != i) = !(ao ts t.f0==i):=rfl
  have e:(bK t.f1 != 0) = !(bK t.f1==0):=rfl
  rw [cond_true,Bool.true_and,if_pos h.1,e1,e]
  cases ao ts t.f0==i with
  | false=>rfl
  | true =>
   rw [Bool.not_true,cond_false,Bool.true_and]
   cases bK t.f1==0 with
   | true=>rfl
   | false =>
    rw [cond_false,Bool.not_false,Bool.true_and]
    cases aM t.f2 0 3 with
    | false=>rfl
    | true =>
     rw [cond_true,Bool.true_and,if_pos (by omega),Iz ts h.1 t.f0 t.f4 h4 t.f4 0 t.f3 rfl,if_pos rfl]
     cases (asc t.f0 t.f4 none&&t.f4.all fun n=>decide (0≤ao ts n))<;>rfl
theorem F9 (ts:List GTask) (h4:ts.length≤4) (i:Int) (t:GTask):ib ts i t=(px t&&((ao ts t.f0==i)&&t.f4.all fun n=>decide (0≤ao ts n))):=by
 unfold ib px
 by_cases q:asc t.f0 t.f4 none=true∧(t.f4.all fun n=>decide (0≤ao ts n))=true
 ·have hl:t.f4.length≤4:=by
   have:=EN (l:=t.f4.map tx) (m:=ts.map fun u=>tx u.f0) (pG t.f0 t.f4 none q.1).1 (fun x hx=>by
    obtain ⟨n,hn,rfl⟩:=List.mem_map.1 hx
    have:=List.all_eq_true.1 q.2 n hn
    obtain ⟨u,hu,e⟩:=Ek (of_decide_eq_true this)
    exact List.mem_map.2 ⟨u,hu,e⟩)
   simp only [List.length_map] at this
   omega
  rw [decide_eq_true hl,q.1,q.2]
  cases dM t.f0<;>cases ao ts t.f0==i<;>cases bK t.f1 != 0<;>cases aM t.f2 0 3<;>rfl
 ·have hf:(asc t.f0 t.f4 none&&t.f4.all fun n=>decide (0≤ao ts n))=false:=by
   rw [← Bool.not_eq_true,Bool.and_eq_true];exact q
  rw [hf]
  revert hf
  generalize (t.f4.all fun n=>decide (0≤ao ts n))=B
  generalize asc t.f0 t.f4 none=A
  generalize decide (t.f4.length≤4)=C
  intro hf
  cases A<;>cases B<;>simp at hf<;>cases dM t.f0<;>cases ao ts t.f0==i<;>cases bK t.f1 != 0<;>cases aM t.f2 0 3<;>cases C<;>rfl
theorem oi (x0:GTask) (h:am.sm x0):Does E 48 [.agg (GTask.t .far x0)] [(false,[tB (px x0)])]:=by
 exact FC x0 _ (Iu x0 h)
theorem vh {q0:Kd} (x0:List GTask) (x1:Int) (h:am.sm x0) (hi:0≤x1∧x1<(x0.length:Int)):Does E 38 [.one (.s .far () 5 (x0.map (GTask.t q0))),.one (tI x1)] [(false,[tB (lX x0 x1)])]:=by
 exact Ea x0 x1 _ (El x0 x1 h hi)
noncomputable def ot (x0:ByteArray):Option (Bool) :=
  cond ((aq x0).2)
   (if am.sm ((aq x0).1) then some (((aX ((aq x0).1)).1).toList==x0.toList) else none)
   (if am.sm ((aq x0).1) then some (false) else none)
theorem FB (x0:ByteArray):Ans (ot x0) (fun r=>Does E 46 [.one (tS x0)] [(false,[tB r])]):=by
 unfold ot
 apply K0<;>intro h0
 ·refine K2 (fun h1 => ?_)
  exact KX (DP Tryz.f46 [.ret [(true,GCron.t .own ((aq x0).1)),(false,[tB true])],.ret [(false,[tS ((aX ((aq x0).1)).1)]),(false,[tB ((aX ((aq x0).1)).2)])]] (AD (pC x0 h0)<|AD (tu ((aq x0).1) h1)<|AN))
 ·refine K2 (fun h1 => ?_)
  exact KX (DP Tryz.f46 [.ret [(true,GCron.t .own ((aq x0).1)),(false,[tB false])],.ret [(false,[tS ((aX ((aq x0).1)).1)]),(false,[tB ((aX ((aq x0).1)).2)])]] (AD (pC x0 h0)<|AD (tu ((aq x0).1) h1)<|AN))
noncomputable def iM (s:ByteArray):Bool:=(aq s).2&&((aX (aq s).1).1.toList==s.toList)
theorem HQ (s:ByteArray):ot s=some (iM s):=by
 unfold ot iM
 simp only [Cj s,if_true]
 cases (aq s).2<;>rfl
theorem iL (x0:ByteArray):Does E 46 [.one (tS x0)] [(false,[tB (iM x0)])]:=by
 exact FB x0 _ (HQ x0)
inductive xH where
 | ret (v2:Bool)
 | x0 
def kx (q0:Kd) (v1_0 v1_1:ByteArray) (v1_2 v1_3:Int) (v1_4:Bool) (v1_5:List GTask) (v7:Int):US:=stL 74 [(1,.box () [tS v1_0,tS v1_1,tI v1_2,tI v1_3,tB v1_4,.s .far () 5 (v1_5.map (GTask.t q0))]),(7,.one (tI v7))]
def nX (q0:Kd) (zv2:Bool):US:=stL 74 [(2,.one (tB zv2))]
def pm (q0:Kd) (v1_0 v1_1:ByteArray) (v1_2 v1_3:Int) (v1_4:Bool) (v1_5:List GTask):US:=stL 74 [(1,.box () [tS v1_0,tS v1_1,tI v1_2,tI v1_3,tB v1_4,.s .far () 5 (v1_5.map (GTask.t q0))])]
abbrev sr:US→Exit→US→Prop:=Round E 18 (aw Tryz.f18 0)
def FX {q0:Kd} (v1_0 v1_1:ByteArray) (v1_2 v1_3:Int) (v1_4:Bool) (v1_5:List GTask) (v7:Int):xH→Prop
 | .ret zv2=>Loops E 18 (aw Tryz.f18 0) (kx q0 v1_0 v1_1 v1_2 v1_3 v1_4 v1_5 v7) .ret (nX q0 zv2)
 | .x0=>Loops E 18 (aw Tryz.f18 0) (kx q0 v1_0 v1_1 v1_2 v1_3 v1_4 v1_5 v7) (.exit 0) (pm q0 v1_0 v1_1 v1_2 v1_3 v1_4 v1_5)
noncomputable def iW (v1_5:List GTask):List GTask→Nat→Bool→Option xH
 | [],i,v1_4=>some (.x0)
 | hd::rest,i,v1_4=>if am.sm v1_5 then if 0≤(i:Int)∧(i:Int)<(v1_5.length:Int) then cond (lX v1_5 (i:Int))
  (iW v1_5 rest (i+1) v1_4)
  (some (.ret false)) else none else none
theorem FW {q0:Kd} (v1_0 v1_1:ByteArray) (v1_2 v1_3:Int) (v1_5:List GTask) (rest:List GTask):∀ (i:Nat) (v1_4:Bool),(v1_5).drop i=rest→v1_5.length≤9223372036854775807→Ans (iW v1_5 rest i v1_4) (FX (q0:=q0) v1_0 v1_1 v1_2 v1_3 v1_4 v1_5 (i:Int)):=by
 induction rest with
 | nil =>
  intro i v1_4 hE hl
  have hb:=bo hE
  unfold iW
  exact KX (KZ (show sr (kx q0 v1_0 v1_1 v1_2 v1_3 v1_4 v1_5 (i:Int)) (.exit 0) (pm q0 v1_0 v1_1 v1_2 v1_3 v1_4 v1_5) from RP [.val (.int .i64 (v1_5.length:Int)),.b false] (ALn v1_5 (GTask.t q0)<|AC hb<|AN)) (by intro h;cases h))
 | cons hd rest ih =>
  intro i v1_4 hE hl
  have hb:=aY hE
  have hw:=aZ hE hl
  have hE2:=aH hE
  have hg:=bc hE
  unfold iW
  refine K2 (fun h1 => ?_)
  refine K2 (fun h2 => ?_)
  apply K0<;>intro h3
  ·exact (ih (i+1) v1_4 hE2 hl).mono fun y hy=>by have r:sr (kx q0 v1_0 v1_1 v1_2 v1_3 v1_4 v1_5 (i:Int)) .normal (kx q0 v1_0 v1_1 v1_2 v1_3 v1_4 v1_5 (inc (i:Int))):=RP [.val (.int .i64 (v1_5.length:Int)),.b true,rT] (ALn v1_5 (GTask.t q0)<|AC hb<|AV (ψ:=fun k=>E.C k 38 [.one (.s .far () 5 (v1_5.map (GTask.t q0))),.one (tI (i:Int))]=some [(false,[tB true])]) (K3 (vh v1_5 (i:Int) h1 h2) (by rw [h3]))<|AN);rw [hw] at r;cases y<;>exact KY r hy
  ·exact KX (KZ (show sr (kx q0 v1_0 v1_1 v1_2 v1_3 v1_4 v1_5 (i:Int)) .ret (nX q0 false) from RP [.val (.int .i64 (v1_5.length:Int)),.b true,rF] (ALn v1_5 (GTask.t q0)<|AC hb<|AV (ψ:=fun k=>E.C k 38 [.one (.s .far () 5 (v1_5.map (GTask.t q0))),.one (tI (i:Int))]=some [(false,[tB false])]) (K3 (vh v1_5 (i:Int) h1 h2) (by rw [h3]))<|AN)) (by intro h;cases h))
noncomputable def pY (x0:GDag):Option (Bool) :=
  cond ((aq x0.f1).2)
   (if am.sm ((aq x0.f1).1) then if x0.f0.size≤2000000 then cond (dM x0.f0)
    (cond (!(((aX ((aq x0.f1).1)).1).toList==x0.f1.toList))
     (some (false))
     (cond (aM x0.f3 (0:Int) (68374079:Int))
      (cond (aM x0.f2 (0:Int) x0.f3)
       (cond (aM (x0.f5.length:Int) (1:Int) (4:Int))
        (if x0.f5.length≤9223372036854775807 then (iW x0.f5 x0.f5 0 x0.f4).bind fun y=>match y with
         | .ret w0_2=>(some (w0_2))
         | .x0=>(if am.sm x0.f5 then if cN x0.f5 then some (((da x0.f5).length:Int)==(x0.f5.length:Int)) else none else none) else none)
        (some (false)))
       (some (false)))
      (some (false))))
    (some (false)) else none else none)
   (if am.sm ((aq x0.f1).1) then if x0.f0.size≤2000000 then cond (dM x0.f0)
    (some (false))
    (some (false)) else none else none)
theorem Ho {q0:Kd} (x0:GDag):Ans (pY x0) (fun r=>Does E 18 [.agg (GDag.t .far q0 x0)] [(false,[tB r])]):=by
 unfold pY
 apply K0<;>intro f1
 ·refine K2 (fun f2 => ?_)
  refine K2 (fun f3 => ?_)
  apply K0<;>intro f4
  ·apply K0<;>intro h4
   ·exact KX (DP Tryz.f18 [.ret [(true,GCron.t .own ((aq x0.f1).1)),(false,[tB true])],.ret [(false,[tS ((aX ((aq x0.f1).1)).1)]),(false,[tB ((aX ((aq x0.f1).1)).2)])],rT,.b true] (AD (en x0.f1 f1)<|AD (eo ((aq x0.f1).1) f2)<|AD (K5 (cw x0.f0 f3) f4)<|AC h4<|AN))
   ·apply K0<;>intro h5
    ·apply K0<;>intro h6
     ·apply K0<;>intro h7
      ·refine K2 (fun hl7 => ?_)
       refine K1 (fun y hy => ?_)
       replace hy:=FW (q0:=q0) x0.f0 x0.f1 x0.f2 x0.f3 x0.f5 x0.f5 0 x0.f4 rfl hl7 y hy
       cases y with
       | ret w0_2 =>
        have h8:=hy
        exact KX (DP Tryz.f18 [.ret [(true,GCron.t .own ((aq x0.f1).1)),(false,[tB true])],.ret [(false,[tS ((aX ((aq x0.f1).1)).1)]),(false,[tB ((aX ((aq x0.f1).1)).2)])],rT,.b false,rT,rT,.val (.int .i64 (x0.f5.length:Int)),rT,.lp .ret (nX q0 w0_2)] (AD (en x0.f1 f1)<|AD (eo ((aq x0.f1).1) f2)<|AD (K5 (cw x0.f0 f3) f4)<|AC h4<|AD (K5 (bz x0.f3 (0:Int) (68374079:Int)) h5)<|AD (K5 (bz x0.f2 (0:Int) x0.f3) h6)<|ALn x0.f5 (GTask.t q0)<|AD (K5 (bz (x0.f5.length:Int) (1:Int) (4:Int)) h7)<|AL h8<|AN))
       | x0 =>
        have h8:=hy
        refine K2 (fun h9 => ?_)
        refine K2 (fun h10 => ?_)
        exact KX (DP Tryz.f18 [.ret [(true,GCron.t .own ((aq x0.f1).1)),(false,[tB true])],.ret [(false,[tS ((aX ((aq x0.f1).1)).1)]),(false,[tB ((aX ((aq x0.f1).1)).2)])],rT,.b false,rT,rT,.val (.int .i64 (x0.f5.length:Int)),rT,.lp (.exit 0) (pm q0 x0.f0 x0.f1 x0.f2 x0.f3 x0.f4 x0.f5),.ret [(false,[.s .own () 1 ((da x0.f5).map etI)])],.val (.int .i64 ((da x0.f5).length:Int)),.val (.int .i64 (x0.f5.length:Int))] (AD (en x0.f1 f1)<|AD (eo ((aq x0.f1).1) f2)<|AD (K5 (cw x0.f0 f3) f4)<|AC h4<|AD (K5 (bz x0.f3 (0:Int) (68374079:Int)) h5)<|AD (K5 (bz x0.f2 (0:Int) x0.f3) h6)<|ALn x0.f5 (GTask.t q0)<|AD (K5 (bz (x0.f5.length:Int) (1:Int) (4:Int)) h7)<|AL h8<|AV (ψ:=fun k=>E.C k 19 [.one (.s .far () 5 (x0.f5.map (GTask.t q0)))]=some [(false,[.s .own () 1 ((da x0.f5).map etI)])]) (tC x0.f5 h9 h10)<|ALn (da x0.f5) etI<|ALn x0.f5 (GTask.t q0)<|AN))
      ·exact KX (DP Tryz.f18 [.ret [(true,GCron.t .own ((aq x0.f1).1)),(false,[tB true])],.ret [(false,[tS ((aX ((aq x0.f1).1)).1)]),(false,[tB ((aX ((aq x0.f1).1)).2)])],rT,.b false,rT,rT,.val (.int .i64 (x0.f5.length:Int)),rF] (AD (en x0.f1 f1)<|AD (eo ((aq x0.f1).1) f2)<|AD (K5 (cw x0.f0 f3) f4)<|AC h4<|AD (K5 (bz x0.f3 (0:Int) (68374079:Int)) h5)<|AD (K5 (bz x0.f2 (0:Int) x0.f3) h6)<|ALn x0.f5 (GTask.t q0)<|AD (K5 (bz (x0.f5.length:Int) (1:Int) (4:Int)) h7)<|AN))
     ·exact KX (DP Tryz.f18 [.ret [(true,GCron.t .own ((aq x0.f1).1)),(false,[tB true])],.ret [(false,[tS ((aX ((aq x0.f1).1)).1)]),(false,[tB ((aX ((aq x0.f1).1)).2)])],rT,.b false,rT,rF] (AD (en x0.f1 f1)<|AD (eo ((aq x0.f1).1) f2)<|AD (K5 (cw x0.f0 f3) f4)<|AC h4<|AD (K5 (bz x0.f3 (0:Int) (68374079:Int)) h5)<|AD (K5 (bz x0.f2 (0:Int) x0.f3) h6)<|AN))
    ·exact KX (DP Tryz.f18 [.ret [(true,GCron.t .own ((aq x0.f1).1)),(false,[tB true])],.ret [(false,[tS ((aX ((aq x0.f1).1)).1)]),(false,[tB ((aX ((aq x0.f1).1)).2)])],rT,.b false,rF] (AD (en x0.f1 f1)<|AD (eo ((aq x0.f1).1) f2)<|AD (K5 (cw x0.f0 f3) f4)<|AC h4<|AD (K5 (bz x0.f3 (0:Int) (68374079:Int)) h5)<|AN))
  ·exact KX (DP Tryz.f18 [.ret [(true,GCron.t .own ((aq x0.f1).1)),(false,[tB ((aq x0.f1).2)])],.ret [(false,[tS ((aX ((aq x0.f1).1)).1)]),(false,[tB ((aX ((aq x0.f1).1)).2)])],rF] (AD (nJ x0.f1)<|AD (eo ((aq x0.f1).1) f2)<|AD (K5 (cw x0.f0 f3) f4)<|AN))
 ·refine K2 (fun f5 => ?_)
  refine K2 (fun f6 => ?_)
  apply K0<;>intro f7
  ·exact KX (DP Tryz.f18 [.ret [(true,GCron.t .own ((aq x0.f1).1)),(false,[tB false])],.ret [(false,[tS ((aX ((aq x0.f1).1)).1)]),(false,[tB ((aX ((aq x0.f1).1)).2)])],rT] (AD (en x0.f1 f1)<|AD (eo ((aq x0.f1).1) f5)<|AD (K5 (cw x0.f0 f6) f7)<|AN))
  ·exact KX (DP Tryz.f18 [.ret [(true,GCron.t .own ((aq x0.f1).1)),(false,[tB ((aq x0.f1).2)])],.ret [(false,[tS ((aX ((aq x0.f1).1)).1)]),(false,[tB ((aX ((aq x0.f1).1)).2)])],rF] (AD (nJ x0.f1)<|AD (eo ((aq x0.f1).1) f5)<|AD (K5 (cw x0.f0 f6) f7)<|AN))
inductive xf where
 | ret (v2:Bool)
 | x2 
def ki (q0:Kd) (v1_0 v1_1:ByteArray) (v1_2 v1_3:Int) (v1_4:Bool) (v1_5 v40:List GTask) (v41 v42:Int) (v59:List ByteArray) (v60 v61:Int):US:=stL 78 [(1,.box () [tS v1_0,tS v1_1,tI v1_2,tI v1_3,tB v1_4,.s .far () 5 (v1_5.map (GTask.t q0))]),(40,.one (.s .far () 5 (v40.map (GTask.t q0)))),(41,.one (tI v41)),(42,.one (tI v42)),(59,.one (.s .far () 1 (v59.map etS))),(60,.one (tI v60)),(61,.one (tI v61))]
def nN (q0:Kd) (zv2:Bool):US:=stL 78 [(2,.one (tB zv2))]
def oY (q0:Kd) (v1_0 v1_1:ByteArray) (v1_2 v1_3:Int) (v1_4:Bool) (v1_5 v40:List GTask) (v41 v42:Int):US:=stL 78 [(1,.box () [tS v1_0,tS v1_1,tI v1_2,tI v1_3,tB v1_4,.s .far () 5 (v1_5.map (GTask.t q0))]),(40,.one (.s .far () 5 (v40.map (GTask.t q0)))),(41,.one (tI v41)),(42,.one (tI v42))]
abbrev rS:US→Exit→US→Prop:=Round E 25 (aw Tryz.f25 1)
def Fx {q0:Kd} (v1_0 v1_1:ByteArray) (v1_2 v1_3:Int) (v1_4:Bool) (v1_5 v40:List GTask) (v41 v42:Int) (v59:List ByteArray) (v60 v61:Int):xf→Prop
 | .ret zv2=>Loops E 25 (aw Tryz.f25 1) (ki q0 v1_0 v1_1 v1_2 v1_3 v1_4 v1_5 v40 v41 v42 v59 v60 v61) .ret (nN q0 zv2)
 | .x2=>Loops E 25 (aw Tryz.f25 1) (ki q0 v1_0 v1_1 v1_2 v1_3 v1_4 v1_5 v40 v41 v42 v59 v60 v61) (.exit 2) (oY q0 v1_0 v1_1 v1_2 v1_3 v1_4 v1_5 v40 v41 v42)
noncomputable def iO (v1_0 v1_1:ByteArray) (v1_2 v1_3:Int) (v1_5:List GTask):List ByteArray→Nat→Bool→Option xf
 | [],i,v1_4=>some (.x2)
 | hd::rest,i,v1_4=>if (GDag.mk v1_0 v1_1 v1_2 v1_3 v1_4 v1_5).f5.length≤1050000 then cond (decide ((bw (GDag.mk v1_0 v1_1 v1_2 v1_3 v1_4 v1_5) hd)<(0:Int)))
  (some (.ret false))
  (iO v1_0 v1_1 v1_2 v1_3 v1_5 rest (i+1) v1_4) else none
theorem Fv {q0:Kd} (v1_0 v1_1:ByteArray) (v1_2 v1_3:Int) (v1_5 v40:List GTask) (v41 v42:Int) (v59:List ByteArray) (rest:List ByteArray):∀ (i:Nat) (v1_4:Bool),(v59).drop i=rest→v59.length≤9223372036854775807→Ans (iO v1_0 v1_1 v1_2 v1_3 v1_5 rest i v1_4) (Fx (q0:=q0) v1_0 v1_1 v1_2 v1_3 v1_4 v1_5 v40 v41 v42 v59 (v59.length:Int) (i:Int)):=by
 induction rest with
 | nil =>
  intro i v1_4 hE hl
  have hb:=bo hE
  unfold iO
  exact KX (KZ (show rS (ki q0 v1_0 v1_1 v1_2 v1_3 v1_4 v1_5 v40 v41 v42 v59 (v59.length:Int) (i:Int)) (.exit 2) (oY q0 v1_0 v1_1 v1_2 v1_3 v1_4 v1_5 v40 v41 v42) from RP [.b false] (AC hb<|AN)) (by intro h;cases h))
 | cons hd rest ih =>
  intro i v1_4 hE hl
  have hb:=aY hE
  have hw:=aZ hE hl
  have hE2:=aH hE
  have hg:=bc hE
  unfold iO
  refine K2 (fun h2 => ?_)
  apply K0<;>intro h3
  ·exact KX (KZ (show rS (ki q0 v1_0 v1_1 v1_2 v1_3 v1_4 v1_5 v40 v41 v42 v59 (v59.length:Int) (i:Int)) .ret (nN q0 false) from RP [.b true,.row (etS hd),.ret [(false,[tI (bw (GDag.mk v1_0 v1_1 v1_2 v1_3 v1_4 v1_5) hd)])],.b true] (AC hb<|AR etS hg<|AV (ψ:=fun k=>E.C k 49 [.agg (GDag.t .far q0 (GDag.mk v1_0 v1_1 v1_2 v1_3 v1_4 v1_5)),.one (tS hd)]=some [(false,[tI (bw (GDag.mk v1_0 v1_1 v1_2 v1_3 v1_4 v1_5) hd)])]) (eT (GDag.mk v1_0 v1_1 v1_2 v1_3 v1_4 v1_5) hd h2)<|AC h3<|AN)) (by intro h;cases h))
  ·exact (ih (i+1) v1_4 hE2 hl).mono fun y hy=>by have r:rS (ki q0 v1_0 v1_1 v1_2 v1_3 v1_4 v1_5 v40 v41 v42 v59 (v59.length:Int) (i:Int)) .normal (ki q0 v1_0 v1_1 v1_2 v1_3 v1_4 v1_5 v40 v41 v42 v59 (v59.length:Int) (inc (i:Int))):=RP [.b true,.row (etS hd),.ret [(false,[tI (bw (GDag.mk v1_0 v1_1 v1_2 v1_3 v1_4 v1_5) hd)])],.b false] (AC hb<|AR etS hg<|AV (ψ:=fun k=>E.C k 49 [.agg (GDag.t .far q0 (GDag.mk v1_0 v1_1 v1_2 v1_3 v1_4 v1_5)),.one (tS hd)]=some [(false,[tI (bw (GDag.mk v1_0 v1_1 v1_2 v1_3 v1_4 v1_5) hd)])]) (eT (GDag.mk v1_0 v1_1 v1_2 v1_3 v1_4 v1_5) hd h2)<|AC h3<|AN);rw [hw] at r;cases y<;>exact KY r hy
inductive xe where
 | ret (v2:Bool)
 | x0 
def gO (q0:Kd) (v1_0 v1_1:ByteArray) (v1_2 v1_3:Int) (v1_4:Bool) (v1_5 v40:List GTask) (v41 v42:Int):US:=stL 78 [(1,.box () [tS v1_0,tS v1_1,tI v1_2,tI v1_3,tB v1_4,.s .far () 5 (v1_5.map (GTask.t q0))]),(40,.one (.s .far () 5 (v40.map (GTask.t q0)))),(41,.one (tI v41)),(42,.one (tI v42))]
def je (q0:Kd) (zv2:Bool):US:=stL 78 [(2,.one (tB zv2))]
def oX (q0:Kd) (v1_0 v1_1:ByteArray) (v1_2 v1_3:Int) (v1_4:Bool) (v1_5:List GTask):US:=stL 78 [(1,.box () [tS v1_0,tS v1_1,tI v1_2,tI v1_3,tB v1_4,.s .far () 5 (v1_5.map (GTask.t q0))])]
abbrev mg:US→Exit→US→Prop:=Round E 25 (aw Tryz.f25 0)
def Fw {q0:Kd} (v1_0 v1_1:ByteArray) (v1_2 v1_3:Int) (v1_4:Bool) (v1_5 v40:List GTask) (v41 v42:Int):xe→Prop
 | .ret zv2=>Loops E 25 (aw Tryz.f25 0) (gO q0 v1_0 v1_1 v1_2 v1_3 v1_4 v1_5 v40 v41 v42) .ret (je q0 zv2)
 | .x0=>Loops E 25 (aw Tryz.f25 0) (gO q0 v1_0 v1_1 v1_2 v1_3 v1_4 v1_5 v40 v41 v42) (.exit 0) (oX q0 v1_0 v1_1 v1_2 v1_3 v1_4 v1_5)
noncomputable def iN (v1_0 v1_1:ByteArray) (v1_2 v1_3:Int) (v1_5:List GTask):List GTask→Nat→Bool→Option xe
 | [],i,v1_4=>some (.x0)
 | hd::rest,i,v1_4=>if am.sm hd then cond (px hd)
  (if (GDag.mk v1_0 v1_1 v1_2 v1_3 v1_4 v1_5).f5.length≤1050000 then cond ((bw (GDag.mk v1_0 v1_1 v1_2 v1_3 v1_4 v1_5) hd.f0) != (i:Int))
   (some (.ret false))
   (if hd.f4.length≤9223372036854775807 then (iO v1_0 v1_1 v1_2 v1_3 v1_5 hd.f4 0 v1_4).bind fun y=>match y with
    | .ret w0_2=>(some (.ret w0_2))
    | .x2=>(iN v1_0 v1_1 v1_2 v1_3 v1_5 rest (i+1) v1_4) else none) else none)
  (some (.ret false)) else none
theorem Fu {q0:Kd} (v1_0 v1_1:ByteArray) (v1_2 v1_3:Int) (v1_5 v40:List GTask) (rest:List GTask):∀ (i:Nat) (v1_4:Bool),(v40).drop i=rest→v40.length≤9223372036854775807→Ans (iN v1_0 v1_1 v1_2 v1_3 v1_5 rest i v1_4) (Fw (q0:=q0) v1_0 v1_1 v1_2 v1_3 v1_4 v1_5 v40 (v40.length:Int) (i:Int)):=by
 induction rest with
 | nil =>
  intro i v1_4 hE hl
  have hb:=bo hE
  unfold iN
  exact KX (KZ (show mg (gO q0 v1_0 v1_1 v1_2 v1_3 v1_4 v1_5 v40 (v40.length:Int) (i:Int)) (.exit 0) (oX q0 v1_0 v1_1 v1_2 v1_3 v1_4 v1_5) from RP [.b false] (AC hb<|AN)) (by intro h;cases h))
 | cons hd rest ih =>
  intro i v1_4 hE hl
  have hb:=aY hE
  have hw:=aZ hE hl
  have hE2:=aH hE
  have hg:=bc hE
  unfold iN
  refine K2 (fun h2 => ?_)
  apply K0<;>intro h3
  ·refine K2 (fun h4 => ?_)
   apply K0<;>intro h5
   ·exact KX (KZ (show mg (gO q0 v1_0 v1_1 v1_2 v1_3 v1_4 v1_5 v40 (v40.length:Int) (i:Int)) .ret (je q0 false) from RP [.b true,.row ((GTask.t q0) hd),rT,.ret [(false,[tI (bw (GDag.mk v1_0 v1_1 v1_2 v1_3 v1_4 v1_5) hd.f0)])],.b true] (AC hb<|AR (GTask.t q0) hg<|AD (K5 (oi hd h2) h3)<|AV (ψ:=fun k=>E.C k 49 [.agg (GDag.t .far q0 (GDag.mk v1_0 v1_1 v1_2 v1_3 v1_4 v1_5)),.one (tS hd.f0)]=some [(false,[tI (bw (GDag.mk v1_0 v1_1 v1_2 v1_3 v1_4 v1_5) hd.f0)])]) (eT (GDag.mk v1_0 v1_1 v1_2 v1_3 v1_4 v1_5) hd.f0 h4)<|AC h5<|AN)) (by intro h;cases h))
   ·refine K2 (fun hl4 => ?_)
    refine K1 (fun y hy => ?_)
    replace hy:=Fv (q0:=q0) v1_0 v1_1 v1_2 v1_3 v1_5 v40 (v40.length:Int) (i:Int) hd.f4 hd.f4 0 v1_4 rfl hl4 y hy
    cases y with
    | ret w0_2 =>
     have h6:=hy
     exact KX (KZ (show mg (gO q0 v1_0 v1_1 v1_2 v1_3 v1_4 v1_5 v40 (v40.length:Int) (i:Int)) .ret (je q0 w0_2) from RP [.b true,.row ((GTask.t q0) hd),rT,.ret [(false,[tI (bw (GDag.mk v1_0 v1_1 v1_2 v1_3 v1_4 v1_5) hd.f0)])],.b false,.val (.int .i64 (hd.f4.length:Int)),.lp .ret (nN q0 w0_2)] (AC hb<|AR (GTask.t q0) hg<|AD (K5 (oi hd h2) h3)<|AV (ψ:=fun k=>E.C k 49 [.agg (GDag.t .far q0 (GDag.mk v1_0 v1_1 v1_2 v1_3 v1_4 v1_5)),.one (tS hd.f0)]=some [(false,[tI (bw (GDag.mk v1_0 v1_1 v1_2 v1_3 v1_4 v1_5) hd.f0)])]) (eT (GDag.mk v1_0 v1_1 v1_2 v1_3 v1_4 v1_5) hd.f0 h4)<|AC h5<|ALn hd.f4 etS<|AL h6<|AN)) (by intro h;cases h))
    | x2 =>
     have h6:=hy
     exact (ih (i+1) v1_4 hE2 hl).mono fun y hy=>by have r:mg (gO q0 v1_0 v1_1 v1_2 v1_3 v1_4 v1_5 v40 (v40.length:Int) (i:Int)) .normal (gO q0 v1_0 v1_1 v1_2 v1_3 v1_4 v1_5 v40 (v40.length:Int) (inc (i:Int))):=RP [.b true,.row ((GTask.t q0) hd),rT,.ret [(false,[tI (bw (GDag.mk v1_0 v1_1 v1_2 v1_3 v1_4 v1_5) hd.f0)])],.b false,.val (.int .i64 (hd.f4.length:Int)),.lp (.exit 2) (oY q0 v1_0 v1_1 v1_2 v1_3 v1_4 v1_5 v40 (v40.length:Int) (i:Int))] (AC hb<|AR (GTask.t q0) hg<|AD (K5 (oi hd h2) h3)<|AV (ψ:=fun k=>E.C k 49 [.agg (GDag.t .far q0 (GDag.mk v1_0 v1_1 v1_2 v1_3 v1_4 v1_5)),.one (tS hd.f0)]=some [(false,[tI (bw (GDag.mk v1_0 v1_1 v1_2 v1_3 v1_4 v1_5) hd.f0)])]) (eT (GDag.mk v1_0 v1_1 v1_2 v1_3 v1_4 v1_5) hd.f0 h4)<|AC h5<|ALn hd.f4 etS<|AL h6<|AN);rw [hw] at r;cases y<;>exact KY r hy
  ·exact KX (KZ (show mg (gO q0 v1_0 v1_1 v1_2 v1_3 v1_4 v1_5 v40 (v40.length:Int) (i:Int)) .ret (je q0 false) from RP [.b true,.row ((GTask.t q0) hd),rF] (AC hb<|AR (GTask.t q0) hg<|AD (K5 (oi hd h2) h3)<|AN)) (by intro h;cases h))
noncomputable def pL (x0:GDag):Option (Bool) :=
  if x0.f0.size≤2000000 then cond (dM x0.f0)
   (cond (iM x0.f1)
    (cond (decide (x0.f2<(0:Int)))
     (some (false))
     (cond (decide (x0.f2>x0.f3))
      (some (false))
      (cond (decide (x0.f3>(68374079:Int)))
       (some (false))
       (cond (aM (x0.f5.length:Int) (1:Int) (4:Int))
        (if x0.f5.length≤9223372036854775807 then (iN x0.f0 x0.f1 x0.f2 x0.f3 x0.f5 x0.f5 0 x0.f4).bind fun y=>match y with
         | .ret w0_2=>(some (w0_2))
         | .x0=>(if am.sm x0 then if cN x0.f5 then some (((eI x0).length:Int)==(x0.f5.length:Int)) else none else none) else none)
        (some (false))))))
    (some (false)))
   (some (false)) else none
theorem GM {q0:Kd} (x0:GDag):Ans (pL x0) (fun r=>Does E 25 [.agg (GDag.t .far q0 x0)] [(false,[tB r])]):=by
 unfold pL
 refine K2 (fun h0 => ?_)
 apply K0<;>intro h1
 ·apply K0<;>intro h2
  ·apply K0<;>intro h3
   ·exact KX (DP Tryz.f25 [rT,rT,.b true] (AD (K5 (cR x0.f0 h0) h1)<|AD (K5 (iL x0.f1) h2)<|AC h3<|AN))
   ·apply K0<;>intro h4
    ·exact KX (DP Tryz.f25 [rT,rT,.b false,.b true] (AD (K5 (cR x0.f0 h0) h1)<|AD (K5 (iL x0.f1) h2)<|AC h3<|AC h4<|AN))
    ·apply K0<;>intro h5
     ·exact KX (DP Tryz.f25 [rT,rT,.b false,.b false,.b true] (AD (K5 (cR x0.f0 h0) h1)<|AD (K5 (iL x0.f1) h2)<|AC h3<|AC h4<|AC h5<|AN))
     ·apply K0<;>intro h6
      ·refine K2 (fun hl7 => ?_)
       refine K1 (fun y hy => ?_)
       replace hy:=Fu (q0:=q0) x0.f0 x0.f1 x0.f2 x0.f3 x0.f5 x0.f5 x0.f5 0 x0.f4 rfl hl7 y hy
       cases y with
       | ret w0_2 =>
        have h7:=hy
        exact KX (DP Tryz.f25 [rT,rT,.b false,.b false,.b false,.val (.int .i64 (x0.f5.length:Int)),rT,.val (.int .i64 (x0.f5.length:Int)),.lp .ret (je q0 w0_2)] (AD (K5 (cR x0.f0 h0) h1)<|AD (K5 (iL x0.f1) h2)<|AC h3<|AC h4<|AC h5<|ALn x0.f5 (GTask.t q0)<|AD (K5 (de (x0.f5.length:Int) (1:Int) (4:Int)) h6)<|ALn x0.f5 (GTask.t q0)<|AL h7<|AN))
       | x0 =>
        have h7:=hy
        refine K2 (fun h8 => ?_)
        refine K2 (fun h9 => ?_)
        exact KX (DP Tryz.f25 [rT,rT,.b false,.b false,.b false,.val (.int .i64 (x0.f5.length:Int)),rT,.val (.int .i64 (x0.f5.length:Int)),.lp (.exit 0) (oX q0 x0.f0 x0.f1 x0.f2 x0.f3 x0.f4 x0.f5),.ret [(false,[.s .own () 1 ((eI x0).map etI)])],.val (.int .i64 ((eI x0).length:Int)),.val (.int .i64 (x0.f5.length:Int))] (AD (K5 (cR x0.f0 h0) h1)<|AD (K5 (iL x0.f1) h2)<|AC h3<|AC h4<|AC h5<|ALn x0.f5 (GTask.t q0)<|AD (K5 (de (x0.f5.length:Int) (1:Int) (4:Int)) h6)<|ALn x0.f5 (GTask.t q0)<|AL h7<|AV (ψ:=fun k=>E.C k 50 [.agg (GDag.t .far q0 x0)]=some [(false,[.s .own () 1 ((eI x0).map etI)])]) (vd x0 h8 h9)<|ALn (eI x0) etI<|ALn x0.f5 (GTask.t q0)<|AN))
      ·exact KX (DP Tryz.f25 [rT,rT,.b false,.b false,.b false,.val (.int .i64 (x0.f5.length:Int)),rF] (AD (K5 (cR x0.f0 h0) h1)<|AD (K5 (iL x0.f1) h2)<|AC h3<|AC h4<|AC h5<|ALn x0.f5 (GTask.t q0)<|AD (K5 (de (x0.f5.length:Int) (1:Int) (4:Int)) h6)<|AN))
  ·exact KX (DP Tryz.f25 [rT,rF] (AD (K5 (cR x0.f0 h0) h1)<|AD (K5 (iL x0.f1) h2)<|AN))
 ·exact KX (DP Tryz.f25 [rF] (AD (K5 (cR x0.f0 h0) h1)<|AN))
noncomputable def dE (ts:List GTask):List GTask→Nat→Bool
 | [],_=>true
 | t::r,i=>ib ts (i:Int) t&&dE ts r (i+1)
noncomputable def cH (d:GDag):Bool :=
 dM d.f0&&(iM d.f1&&(aM d.f3 0 68374079&&(aM d.f2 0 d.f3&&(aM (d.f5.length:Int) 1 4&&(dE d.f5 d.f5 0&&((da d.f5).length:Int)==(d.f5.length:Int))))))
theorem sf (ts:List GTask):∀ (rest:List GTask) (i:Nat),ts.drop i=rest→dE ts rest i=true→∀ (k:Nat) (t:GTask),i≤k→ts[k]?=some t→ib ts (k:Int) t=true
 | [],i,h,_,k,t,hk,hg=>by
  have:ts.length≤i:=List.drop_eq_nil_iff.1 h
  rw [List.getElem?_eq_none (by omega)] at hg;cases hg
 | x::rest,i,h,hr,k,t,hk,hg=>by
  unfold dE at hr
  rw [Bool.and_eq_true] at hr
  by_cases e:k=i
  ·subst e
   have:ts[k]?=some x:=by rw [← List.head?_drop,h];rfl
   rw [this] at hg
   cases hg
   exact hr.1
  ·exact sf ts rest (i+1) (aH h) hr.2 k t (by omega) hg
theorem rR {ts:List GTask} (h4:ts.length≤4) (h:dE ts ts 0=true):cN ts:=by
 refine ⟨h4,fun i t hg => ?_⟩
 have:=sf ts ts 0 rfl h i t (Nat.zero_le _) hg
 unfold ib at this
 simp only [Bool.and_eq_true,beq_iff_eq] at this
 exact this.2.1
theorem Gm (ts:List GTask) (hs:am.sm ts):∀ (rest:List GTask) (i:Nat) (z:Bool),ts.drop i=rest→iW ts rest i z=some (cond (dE ts rest i) .x0 (.ret false))
 | [],i,z,_=>rfl
 | x::rest,i,z,h=>by
  have hi:=oW h
  have hg:=bc h
  have e:lX ts (i:Int)=ib ts (i:Int) x:=by unfold lX;rw [hg]
  unfold iW dE
  rw [Gm ts hs rest (i+1) z (aH h),if_pos hs,if_pos (by omega),e]
  cases ib ts (i:Int) x<;>rfl
theorem JV (d:GDag) (h:am.sm d):pY d=some (cH d):=by
 have hs:am.sm d.f5:=h.2.2
 have hn:d.f0.size≤2000000:=by have:d.f0.size≤1050000:=h.1;omega
 unfold pY cH iM
 simp only [hn,Cj,if_true]
 cases (aq d.f1).2 with
 | false=>cases dM d.f0<;>rfl
 | true =>
  rw [cond_true]
  cases dM d.f0 with
  | false=>rfl
  | true =>
   rw [cond_true,Bool.true_and,Bool.true_and]
   cases (aX (aq d.f1).1).1.toList==d.f1.toList with
   | false=>rfl
   | true =>
    rw [Bool.not_true,cond_false,Bool.true_and]
    cases aM d.f3 0 68374079 with
    | false=>rfl
    | true =>
     rw [cond_true,Bool.true_and]
     cases aM d.f2 0 d.f3 with
     | false=>rfl
     | true =>
      rw [cond_true,Bool.true_and]
      cases q:aM (d.f5.length:Int) 1 4 with
      | false=>rfl
      | true =>
       have h4:d.f5.length≤4:=by unfold aM at q;simp at q;omega
       rw [cond_true,Bool.true_and,if_pos (by omega),Gm d.f5 hs d.f5 0 d.f4 rfl]
       cases w:dE d.f5 d.f5 0 with
       | false=>rfl
       | true =>
        rw [cond_true,Option.bind_some,Bool.true_and]
        simp only
        rw [if_pos hs,if_pos (rR h4 w)]
theorem Gl (a b:ByteArray) (c e:Int) (ts:List GTask) (ht:ts.length≤1050000):∀ (l:List ByteArray) (i:Nat) (z:Bool),iO a b c e ts l i z=some (cond (l.all fun n=>decide (0≤ao ts n)) .x2 (.ret false))
 | [],i,z=>rfl
 | n::l,i,z=>by
  unfold iO
  rw [if_pos (show (GDag.mk a b c e z ts).f5.length≤1050000 from ht),Gl a b c e ts ht l (i+1) z,List.all_cons]
  show cond (decide (ao ts n<0)) _ _=_
  by_cases w:ao ts n<0
  ·rw [decide_eq_true w,decide_eq_false (by omega:¬ 0≤ao ts n)];rfl
  ·rw [decide_eq_false w,decide_eq_true (by omega:0≤ao ts n)];rfl
theorem Gk (a b:ByteArray) (c e:Int) (ts:List GTask) (hs:am.sm ts) (h4:ts.length≤4):∀ (l:List GTask) (i:Nat) (z:Bool),(∀ y∈l,am.sm y)→iN a b c e ts l i z=some (cond (dE ts l i) .x0 (.ret false))
 | [],i,z,_=>rfl
 | t::l,i,z,hl=>by
  have ht:=hl t (by simp)
  have hf:t.f4.length≤1050000:=ht.2.2.1
  unfold iN dE
  rw [if_pos ht,if_pos (show (GDag.mk a b c e z ts).f5.length≤1050000 from hs.1),if_pos (by omega),Gl a b c e ts hs.1,Gk a b c e ts hs h4 l (i+1) z (fun y hy=>hl y (by simp [hy])),F9 ts h4]
  have e1:(bw (GDag.mk a b c e z ts) t.f0 != (i:Int)) = !(ao ts t.f0==(i:Int)):=rfl
  rw [e1]
  cases px t<;>cases ao ts t.f0==(i:Int)<;>cases (t.f4.all fun n=>decide (0≤ao ts n))<;>cases dE ts l (i+1)<;>rfl
theorem JU (d:GDag) (h:am.sm d):pL d=some (cH d):=by
 have hs:am.sm d.f5:=h.2.2
 have hn:d.f0.size≤2000000:=by have:d.f0.size≤1050000:=h.1;omega
 unfold pL cH
 rw [if_pos hn]
 cases dM d.f0 with
 | false=>rfl
 | true =>
  rw [cond_true,Bool.true_and]
  cases iM d.f1 with
  | false=>rfl
  | true =>
   rw [cond_true,Bool.true_and]
   by_cases w0:d.f2<0
   ·have:aM d.f2 0 d.f3=false:=by unfold aM;rw [decide_eq_false (by omega)];rfl
    rw [decide_eq_true w0,this,Bool.false_and,Bool.and_false];rfl
   ·rw [decide_eq_false w0,cond_false]
    by_cases w1:d.f2>d.f3
    ·have:aM d.f2 0 d.f3=false:=by unfold aM;rw [decide_eq_false (by omega:¬ d.f2≤d.f3),Bool.and_false]
     rw [decide_eq_true w1,this,Bool.false_and,Bool.and_false];rfl
    ·rw [decide_eq_false w1,cond_false]
     have e1:aM d.f2 0 d.f3=true:=by unfold aM;rw [decide_eq_true (by omega),decide_eq_true (by omega)];rfl
     by_cases w2:d.f3>68374079
     ·have:aM d.f3 0 68374079=false:=by unfold aM;rw [decide_eq_false (by omega:¬ d.f3≤68374079),Bool.and_false]
      rw [decide_eq_true w2,this,Bool.false_and];rfl
     ·have e2:aM d.f3 0 68374079=true:=by unfold aM;rw [decide_eq_true (by omega),decide_eq_true (by omega)];rfl
      rw [decide_eq_false w2,cond_false,e1,e2,Bool.true_and,Bool.true_and]
      cases q:aM (d.f5.length:Int) 1 4 with
      | false=>rfl
      | true =>
       have h4:d.f5.length≤4:=by unfold aM at q;simp at q;omega
       rw [cond_true,Bool.true_and,if_pos (by omega),Gk d.f0 d.f1 d.f2 d.f3 d.f5 hs h4 d.f5 0 d.f4 hs.2]
       cases w:dE d.f5 d.f5 0 with
       | false=>rfl
       | true =>
        rw [cond_true,Option.bind_some,Bool.true_and]
        simp only
        rw [if_pos h,if_pos (rR h4 w)]
        rfl
theorem tA {q0:Kd} (x0:GDag) (h:am.sm x0):Does E 18 [.agg (GDag.t .far q0 x0)] [(false,[tB (cH x0)])]:=by
 exact Ho x0 _ (JV x0 h)
theorem y7 {q0:Kd} (x0:GDag) (h:am.sm x0):Does E 25 [.agg (GDag.t .far q0 x0)] [(false,[tB (cH x0)])]:=by
 exact GM x0 _ (JU x0 h)
end Go.Proofs.YtdcbjglpdbcjpaaGreatDoor.Am
