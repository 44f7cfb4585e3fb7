/- 'laws.FnExactDagText' returns true for every plan, and leaves the plan as it was. Conditions: none. -/
import Derived.Test.YtjfbofdmjihglaaGreatDoorUps
import Derived.Test.YtjfbofdmjihglaaGreatDoorRows
import Derived.Test.YtjfbofdmjihglaaGreatDoorCards
import Derived.Test.YtjfbofdmjihglaaGreatDoorTie
import Derived.WalkKit
import Derived.ProofKit
import Derived.OpenShut
import Derived.ShutString
import Derived.ChangeOld
import Derived.Below
import Derived.SizedLaws
import Derived.Lay
import Derived.LaidMore
import Derived.SevenTiedAt
import Derived.Stop.Joined
import Derived.Stop.LaidErr
import Derived.Lib.LaidTab
import Derived.Shelf.Vars
import Derived.HandedShaped
namespace Go.Proofs.YtjfbofdmjihglaaGreatDoor.Am
open Go Go.Proofs Classical
set_option maxRecDepth 100000
set_option linter.unusedVariables false
set_option linter.unusedSimpArgs false
inductive rJ where
 | x0 (v3:ByteArray)
def f9 (v0:List ByteArray) (v3:ByteArray) (v4:Int):US:=stL 22 [(0,.one (.s .far () 1 (v0.map etS))),(3,.one (tS v3)),(4,.one (tI v4))]
def lE (zv3:ByteArray):US:=stL 22 [(3,.one (tS zv3))]
abbrev nn:US→Exit→US→Prop:=Round E 34 (au Tryz.f34 0)
def zh (v0:List ByteArray) (v3:ByteArray) (v4:Int):rJ→Prop
 | .x0 zv3=>Loops E 34 (au Tryz.f34 0) (f9 v0 v3 v4) (.exit 0) (lE zv3)
noncomputable def dM  : List ByteArray→Nat→ByteArray→Option rJ
 | [],i,v3=>some (.x0 v3)
 | hd::rest,i,v3=>cond (decide ((i:Int)>(0:Int)))
  (if v3.size+(⟨#[44]⟩:ByteArray).size≤ak then if (v3++(⟨#[44]⟩:ByteArray)).size+hd.size≤ak then dM rest (i+1) ((v3++(⟨#[44]⟩:ByteArray))++hd) else none else none)
  (if v3.size+hd.size≤ak then dM rest (i+1) (v3++hd) else none)
theorem zg (v0:List ByteArray) (rest:List ByteArray):∀ (i:Nat) (v3:ByteArray),(v0).drop i=rest→v0.length≤9223372036854775807→Ans (dM rest i v3) (zh v0 v3 (i:Int)):=by
 induction rest with
 | nil =>
  intro i v3 hE hl
  have hb:=bq hE
  unfold dM
  exact Ib (Id (show nn (f9 v0 v3 (i:Int)) (.exit 0) (lE v3) from RP [.val (.int .i64 (v0.length:Int)),.b false] (ALn v0 etS<|AC hb<|AN)) (by intro h;cases h))
 | cons hd rest ih =>
  intro i v3 hE hl
  have hb:=a8 hE
  have hw:=ba hE hl
  have hE2:=aG hE
  have hg:=bd hE
  unfold dM
  apply Ie<;>intro h1
  ·refine Ig (fun h2 => ?_)
   refine Ig (fun h4 => ?_)
   exact (ih (i+1) ((v3++(⟨#[44]⟩:ByteArray))++hd) hE2 hl).mono fun y hy=>by have r:nn (f9 v0 v3 (i:Int)) .normal (f9 v0 ((v3++(⟨#[44]⟩:ByteArray))++hd) (inc (i:Int))):=RP [.val (.int .i64 (v0.length:Int)),.b true,.b true,.val (.string (v3++(⟨#[44]⟩:ByteArray))),.row (etS hd),.val (.string ((v3++(⟨#[44]⟩:ByteArray))++hd))] (ALn v0 etS<|AC hb<|AC h1<|AC (ai (tab:=E.tab) (t:=9) h2)<|AR etS hg<|AC (ai (tab:=E.tab) (t:=9) h4)<|AN);rw [hw] at r;cases y<;>exact Ic r hy
  ·refine Ig (fun h3 => ?_)
   exact (ih (i+1) (v3++hd) hE2 hl).mono fun y hy=>by have r:nn (f9 v0 v3 (i:Int)) .normal (f9 v0 (v3++hd) (inc (i:Int))):=RP [.val (.int .i64 (v0.length:Int)),.b true,.b false,.row (etS hd),.val (.string (v3++hd))] (ALn v0 etS<|AC hb<|AC h1<|AR etS hg<|AC (ai (tab:=E.tab) (t:=9) h3)<|AN);rw [hw] at r;cases y<;>exact Ic r hy
noncomputable def lW (x0:List ByteArray):Option (ByteArray) :=
  if x0.length≤9223372036854775807 then (dM x0 0 ByteArray.empty).bind fun y=>match y with
   | .x0 w0_3=>(some (w0_3)) else none
theorem AE (x0:List ByteArray):Ans (lW x0) (fun r=>Does E 34 [.one (.s .far () 1 (x0.map etS))] [(false,[tS r])]):=by
 unfold lW
 refine Ig (fun hl1 => ?_)
 refine If (fun y hy => ?_)
 replace hy:=zg x0 x0 0 ByteArray.empty rfl hl1 y hy
 cases y with
 | x0 w0_3 =>
  have h0:=hy
  exact Ib (DP Tryz.f34 [.lp (.exit 0) (lE w0_3)] (AL h0<|AN))
noncomputable def db (l:List ByteArray):ByteArray:=ax l ⟨#[44]⟩
theorem zw (l:List ByteArray):tx (ax l ⟨#[44]⟩)=dT 44 (l.map tx):=by
 have e:l=(l.map tx).map ofTx:=by rw [yC]
 conv=>lhs;rw [e]
 rw [mm,hU]
theorem py {l:List ByteArray} (h:an.sm l) (h4:l.length≤4):(db l).size≤8000000:=by
 rw [br]
 unfold db
 rw [zw]
 have:=nW 44 1050000 (l.map tx) (fun x hx=>by
  obtain ⟨s,hs,rfl⟩:=List.mem_map.1 hx
  have:s.size≤1050000:=h.2 s hs
  rw [← br];exact this)
 rw [List.length_map] at this
 omega
theorem C9:∀ (l:List ByteArray) (i:Nat) (v:ByteArray),(∀ s∈l,s.size≤1050000)→0<i→v.size+l.length*1050001≤100000000→∃ w,dM l i v=some (.x0 w)∧tx w=tx v++((l.map tx).map fun y=>44::y).flatten
 | [],i,v,_,_,_=>⟨v,rfl,by simp⟩
 | s::l,i,v,h,hi,hv=>by
  have hs:=h s (by simp)
  have e44:(⟨#[44]⟩:ByteArray).size=1:=rfl
  simp only [List.length_cons] at hv
  obtain ⟨w,w1,w2⟩:=C9 l (i+1) ((v++⟨#[44]⟩)++s) (fun y hy=>h y (by simp [hy])) (by omega) (by simp only [ByteArray.size_append,e44];omega)
  refine ⟨w,?_,?_⟩
  ·unfold dM
   rw [decide_eq_true (by omega),cond_true,if_pos (by rw [e44];unfold ak;omega),if_pos (by simp only [ByteArray.size_append,e44,ak];omega)]
   exact w1
  ·have t44:tx (⟨#[44]⟩:ByteArray)=[44]:=rfl
   rw [w2,fF,fF,t44];simp
theorem FA (l:List ByteArray) (h:an.sm l) (h4:l.length≤4):lW l=some (db l):=by
 unfold lW
 rw [if_pos (by omega)]
 cases l with
 | nil=>rfl
 | cons s l =>
  have hs:s.size≤1050000:=h.2 s (by simp)
  simp only [List.length_cons] at h4
  have e0:ByteArray.empty.size=0:=rfl
  obtain ⟨w,w1,w2⟩:=C9 l 1 (ByteArray.empty++s) (fun y hy=>h.2 y (by simp [hy])) (by omega) (by simp only [ByteArray.size_append,e0];omega)
  unfold dM
  rw [decide_eq_false (by omega),cond_false,if_pos (by rw [e0];unfold ak;omega),w1,Option.bind_some]
  have:w=db (s::l):=by
   apply lb
   have t0:tx ByteArray.empty=[]:=rfl
   unfold db
   rw [w2,zw,fF,t0,List.nil_append];simp [dT]
  rw [this]
theorem r8 (x0:List ByteArray) (h:an.sm x0) (h4:x0.length≤4):Does E 34 [.one (.s .far () 1 (x0.map etS))] [(false,[tS (db x0)])]:=by
 exact AE x0 _ (FA x0 h h4)
noncomputable def kH (x0:GTask):Option (ByteArray) :=
  match x0.f3 with
   | true=>if (⟨#[116,97,115,107,32]⟩:ByteArray).size+x0.f0.size≤ak then if ((⟨#[116,97,115,107,32]⟩:ByteArray)++x0.f0).size+(⟨#[32]⟩:ByteArray).size≤ak then if (((⟨#[116,97,115,107,32]⟩:ByteArray)++x0.f0)++(⟨#[32]⟩:ByteArray)).size+x0.f1.size≤ak then if ((((⟨#[116,97,115,107,32]⟩:ByteArray)++x0.f0)++(⟨#[32]⟩:ByteArray))++x0.f1).size+(⟨#[32]⟩:ByteArray).size≤ak then if -9223372036854775808≤x0.f2∧x0.f2≤9223372036854775807 then if (((((⟨#[116,97,115,107,32]⟩:ByteArray)++x0.f0)++(⟨#[32]⟩:ByteArray))++x0.f1)++(⟨#[32]⟩:ByteArray)).size+(af x0.f2).size≤ak then if ((((((⟨#[116,97,115,107,32]⟩:ByteArray)++x0.f0)++(⟨#[32]⟩:ByteArray))++x0.f1)++(⟨#[32]⟩:ByteArray))++(af x0.f2)).size+(⟨#[32,112,97,115,116]⟩:ByteArray).size≤ak then cond (decide ((x0.f4.length:Int)>(0:Int)))
    (if x0.f4.length≤140737488355328∧(ax x0.f4 (⟨#[44]⟩:ByteArray)).size≤140737488355328 then if (⟨#[32]⟩:ByteArray).size+(ax x0.f4 (⟨#[44]⟩:ByteArray)).size≤ak then if (((((((⟨#[116,97,115,107,32]⟩:ByteArray)++x0.f0)++(⟨#[32]⟩:ByteArray))++x0.f1)++(⟨#[32]⟩:ByteArray))++(af x0.f2))++(⟨#[32,112,97,115,116]⟩:ByteArray)).size+((⟨#[32]⟩:ByteArray)++(ax x0.f4 (⟨#[44]⟩:ByteArray))).size≤ak then if ((((((((⟨#[116,97,115,107,32]⟩:ByteArray)++x0.f0)++(⟨#[32]⟩:ByteArray))++x0.f1)++(⟨#[32]⟩:ByteArray))++(af x0.f2))++(⟨#[32,112,97,115,116]⟩:ByteArray))++((⟨#[32]⟩:ByteArray)++(ax x0.f4 (⟨#[44]⟩:ByteArray)))).size+(⟨#[10]⟩:ByteArray).size≤ak then some (((((((((⟨#[116,97,115,107,32]⟩:ByteArray)++x0.f0)++(⟨#[32]⟩:ByteArray))++x0.f1)++(⟨#[32]⟩:ByteArray))++(af x0.f2))++(⟨#[32,112,97,115,116]⟩:ByteArray))++((⟨#[32]⟩:ByteArray)++(ax x0.f4 (⟨#[44]⟩:ByteArray))))++(⟨#[10]⟩:ByteArray)) else none else none else none else none)
    (if (((((((⟨#[116,97,115,107,32]⟩:ByteArray)++x0.f0)++(⟨#[32]⟩:ByteArray))++x0.f1)++(⟨#[32]⟩:ByteArray))++(af x0.f2))++(⟨#[32,112,97,115,116]⟩:ByteArray)).size+(⟨#[10]⟩:ByteArray).size≤ak then some ((((((((⟨#[116,97,115,107,32]⟩:ByteArray)++x0.f0)++(⟨#[32]⟩:ByteArray))++x0.f1)++(⟨#[32]⟩:ByteArray))++(af x0.f2))++(⟨#[32,112,97,115,116]⟩:ByteArray))++(⟨#[10]⟩:ByteArray)) else none) else none else none else none else none else none else none else none
   | false=>if (⟨#[116,97,115,107,32]⟩:ByteArray).size+x0.f0.size≤ak then if ((⟨#[116,97,115,107,32]⟩:ByteArray)++x0.f0).size+(⟨#[32]⟩:ByteArray).size≤ak then if (((⟨#[116,97,115,107,32]⟩:ByteArray)++x0.f0)++(⟨#[32]⟩:ByteArray)).size+x0.f1.size≤ak then if ((((⟨#[116,97,115,107,32]⟩:ByteArray)++x0.f0)++(⟨#[32]⟩:ByteArray))++x0.f1).size+(⟨#[32]⟩:ByteArray).size≤ak then if -9223372036854775808≤x0.f2∧x0.f2≤9223372036854775807 then if (((((⟨#[116,97,115,107,32]⟩:ByteArray)++x0.f0)++(⟨#[32]⟩:ByteArray))++x0.f1)++(⟨#[32]⟩:ByteArray)).size+(af x0.f2).size≤ak then if ((((((⟨#[116,97,115,107,32]⟩:ByteArray)++x0.f0)++(⟨#[32]⟩:ByteArray))++x0.f1)++(⟨#[32]⟩:ByteArray))++(af x0.f2)).size+(⟨#[32,102,114,101,101]⟩:ByteArray).size≤ak then cond (decide ((x0.f4.length:Int)>(0:Int)))
    (if x0.f4.length≤140737488355328∧(ax x0.f4 (⟨#[44]⟩:ByteArray)).size≤140737488355328 then if (⟨#[32]⟩:ByteArray).size+(ax x0.f4 (⟨#[44]⟩:ByteArray)).size≤ak then if (((((((⟨#[116,97,115,107,32]⟩:ByteArray)++x0.f0)++(⟨#[32]⟩:ByteArray))++x0.f1)++(⟨#[32]⟩:ByteArray))++(af x0.f2))++(⟨#[32,102,114,101,101]⟩:ByteArray)).size+((⟨#[32]⟩:ByteArray)++(ax x0.f4 (⟨#[44]⟩:ByteArray))).size≤ak then if ((((((((⟨#[116,97,115,107,32]⟩:ByteArray)++x0.f0)++(⟨#[32]⟩:ByteArray))++x0.f1)++(⟨#[32]⟩:ByteArray))++(af x0.f2))++(⟨#[32,102,114,101,101]⟩:ByteArray))++((⟨#[32]⟩:ByteArray)++(ax x0.f4 (⟨#[44]⟩:ByteArray)))).size+(⟨#[10]⟩:ByteArray).size≤ak then some (((((((((⟨#[116,97,115,107,32]⟩:ByteArray)++x0.f0)++(⟨#[32]⟩:ByteArray))++x0.f1)++(⟨#[32]⟩:ByteArray))++(af x0.f2))++(⟨#[32,102,114,101,101]⟩:ByteArray))++((⟨#[32]⟩:ByteArray)++(ax x0.f4 (⟨#[44]⟩:ByteArray))))++(⟨#[10]⟩:ByteArray)) else none else none else none else none)
    (if (((((((⟨#[116,97,115,107,32]⟩:ByteArray)++x0.f0)++(⟨#[32]⟩:ByteArray))++x0.f1)++(⟨#[32]⟩:ByteArray))++(af x0.f2))++(⟨#[32,102,114,101,101]⟩:ByteArray)).size+(⟨#[10]⟩:ByteArray).size≤ak then some ((((((((⟨#[116,97,115,107,32]⟩:ByteArray)++x0.f0)++(⟨#[32]⟩:ByteArray))++x0.f1)++(⟨#[32]⟩:ByteArray))++(af x0.f2))++(⟨#[32,102,114,101,101]⟩:ByteArray))++(⟨#[10]⟩:ByteArray)) else none) else none else none else none else none else none else none else none
theorem yk (x0:GTask):Ans (kH x0) (fun r=>Does E 36 [.agg (GTask.t .far x0)] [(false,[tS r])]):=by
 obtain ⟨x0_0,x0_1,x0_2,x0_3,x0_4⟩:=x0
 unfold kH
 cases x0_3 with
 | true =>
  refine Ig (fun h0 => ?_)
  refine Ig (fun h1 => ?_)
  refine Ig (fun h2 => ?_)
  refine Ig (fun h3 => ?_)
  refine Ig (fun h4 => ?_)
  refine Ig (fun h5 => ?_)
  refine Ig (fun h6 => ?_)
  apply Ie<;>intro h7
  ·refine Ig (fun h8 => ?_)
   refine Ig (fun h9 => ?_)
   refine Ig (fun h10 => ?_)
   refine Ig (fun h11 => ?_)
   exact Ib (DP Tryz.f36 [.val (.string ((⟨#[116,97,115,107,32]⟩:ByteArray)++x0_0)),.val (.string (((⟨#[116,97,115,107,32]⟩:ByteArray)++x0_0)++(⟨#[32]⟩:ByteArray))),.val (.string ((((⟨#[116,97,115,107,32]⟩:ByteArray)++x0_0)++(⟨#[32]⟩:ByteArray))++x0_1)),.val (.string (((((⟨#[116,97,115,107,32]⟩:ByteArray)++x0_0)++(⟨#[32]⟩:ByteArray))++x0_1)++(⟨#[32]⟩:ByteArray))),.ret [(false,[tS (af x0_2)])],.val (.string ((((((⟨#[116,97,115,107,32]⟩:ByteArray)++x0_0)++(⟨#[32]⟩:ByteArray))++x0_1)++(⟨#[32]⟩:ByteArray))++(af x0_2))),.val (.string (((((((⟨#[116,97,115,107,32]⟩:ByteArray)++x0_0)++(⟨#[32]⟩:ByteArray))++x0_1)++(⟨#[32]⟩:ByteArray))++(af x0_2))++(⟨#[32,112,97,115,116]⟩:ByteArray))),.val (.int .i64 (x0_4.length:Int)),.b true,.ret [(false,[tS (ax x0_4 (⟨#[44]⟩:ByteArray))])],.val (.string ((⟨#[32]⟩:ByteArray)++(ax x0_4 (⟨#[44]⟩:ByteArray)))),.val (.string ((((((((⟨#[116,97,115,107,32]⟩:ByteArray)++x0_0)++(⟨#[32]⟩:ByteArray))++x0_1)++(⟨#[32]⟩:ByteArray))++(af x0_2))++(⟨#[32,112,97,115,116]⟩:ByteArray))++((⟨#[32]⟩:ByteArray)++(ax x0_4 (⟨#[44]⟩:ByteArray))))),.val (.string (((((((((⟨#[116,97,115,107,32]⟩:ByteArray)++x0_0)++(⟨#[32]⟩:ByteArray))++x0_1)++(⟨#[32]⟩:ByteArray))++(af x0_2))++(⟨#[32,112,97,115,116]⟩:ByteArray))++((⟨#[32]⟩:ByteArray)++(ax x0_4 (⟨#[44]⟩:ByteArray))))++(⟨#[10]⟩:ByteArray)))] (AC (ai (tab:=E.tab) (t:=9) h0)<|AC (ai (tab:=E.tab) (t:=9) h1)<|AC (ai (tab:=E.tab) (t:=9) h2)<|AC (ai (tab:=E.tab) (t:=9) h3)<|AD (cY x0_2 h4)<|AC (ai (tab:=E.tab) (t:=9) h5)<|AC (ai (tab:=E.tab) (t:=9) h6)<|ALn x0_4 etS<|AC h7<|AD (dn x0_4 (⟨#[44]⟩:ByteArray) h8)<|AC (ai (tab:=E.tab) (t:=9) h9)<|AC (ai (tab:=E.tab) (t:=9) h10)<|AC (ai (tab:=E.tab) (t:=9) h11)<|AN))
  ·refine Ig (fun h8 => ?_)
   exact Ib (DP Tryz.f36 [.val (.string ((⟨#[116,97,115,107,32]⟩:ByteArray)++x0_0)),.val (.string (((⟨#[116,97,115,107,32]⟩:ByteArray)++x0_0)++(⟨#[32]⟩:ByteArray))),.val (.string ((((⟨#[116,97,115,107,32]⟩:ByteArray)++x0_0)++(⟨#[32]⟩:ByteArray))++x0_1)),.val (.string (((((⟨#[116,97,115,107,32]⟩:ByteArray)++x0_0)++(⟨#[32]⟩:ByteArray))++x0_1)++(⟨#[32]⟩:ByteArray))),.ret [(false,[tS (af x0_2)])],.val (.string ((((((⟨#[116,97,115,107,32]⟩:ByteArray)++x0_0)++(⟨#[32]⟩:ByteArray))++x0_1)++(⟨#[32]⟩:ByteArray))++(af x0_2))),.val (.string (((((((⟨#[116,97,115,107,32]⟩:ByteArray)++x0_0)++(⟨#[32]⟩:ByteArray))++x0_1)++(⟨#[32]⟩:ByteArray))++(af x0_2))++(⟨#[32,112,97,115,116]⟩:ByteArray))),.val (.int .i64 (x0_4.length:Int)),.b false,.val (.string ((((((((⟨#[116,97,115,107,32]⟩:ByteArray)++x0_0)++(⟨#[32]⟩:ByteArray))++x0_1)++(⟨#[32]⟩:ByteArray))++(af x0_2))++(⟨#[32,112,97,115,116]⟩:ByteArray))++(⟨#[10]⟩:ByteArray)))] (AC (ai (tab:=E.tab) (t:=9) h0)<|AC (ai (tab:=E.tab) (t:=9) h1)<|AC (ai (tab:=E.tab) (t:=9) h2)<|AC (ai (tab:=E.tab) (t:=9) h3)<|AD (cY x0_2 h4)<|AC (ai (tab:=E.tab) (t:=9) h5)<|AC (ai (tab:=E.tab) (t:=9) h6)<|ALn x0_4 etS<|AC h7<|AC (ai (tab:=E.tab) (t:=9) h8)<|AN))
 | false =>
  refine Ig (fun h0 => ?_)
  refine Ig (fun h1 => ?_)
  refine Ig (fun h2 => ?_)
  refine Ig (fun h3 => ?_)
  refine Ig (fun h4 => ?_)
  refine Ig (fun h5 => ?_)
  refine Ig (fun h6 => ?_)
  apply Ie<;>intro h7
  ·refine Ig (fun h8 => ?_)
   refine Ig (fun h9 => ?_)
   refine Ig (fun h10 => ?_)
   refine Ig (fun h11 => ?_)
   exact Ib (DP Tryz.f36 [.val (.string ((⟨#[116,97,115,107,32]⟩:ByteArray)++x0_0)),.val (.string (((⟨#[116,97,115,107,32]⟩:ByteArray)++x0_0)++(⟨#[32]⟩:ByteArray))),.val (.string ((((⟨#[116,97,115,107,32]⟩:ByteArray)++x0_0)++(⟨#[32]⟩:ByteArray))++x0_1)),.val (.string (((((⟨#[116,97,115,107,32]⟩:ByteArray)++x0_0)++(⟨#[32]⟩:ByteArray))++x0_1)++(⟨#[32]⟩:ByteArray))),.ret [(false,[tS (af x0_2)])],.val (.string ((((((⟨#[116,97,115,107,32]⟩:ByteArray)++x0_0)++(⟨#[32]⟩:ByteArray))++x0_1)++(⟨#[32]⟩:ByteArray))++(af x0_2))),.val (.string (((((((⟨#[116,97,115,107,32]⟩:ByteArray)++x0_0)++(⟨#[32]⟩:ByteArray))++x0_1)++(⟨#[32]⟩:ByteArray))++(af x0_2))++(⟨#[32,102,114,101,101]⟩:ByteArray))),.val (.int .i64 (x0_4.length:Int)),.b true,.ret [(false,[tS (ax x0_4 (⟨#[44]⟩:ByteArray))])],.val (.string ((⟨#[32]⟩:ByteArray)++(ax x0_4 (⟨#[44]⟩:ByteArray)))),.val (.string ((((((((⟨#[116,97,115,107,32]⟩:ByteArray)++x0_0)++(⟨#[32]⟩:ByteArray))++x0_1)++(⟨#[32]⟩:ByteArray))++(af x0_2))++(⟨#[32,102,114,101,101]⟩:ByteArray))++((⟨#[32]⟩:ByteArray)++(ax x0_4 (⟨#[44]⟩:ByteArray))))),.val (.string (((((((((⟨#[116,97,115,107,32]⟩:ByteArray)++x0_0)++(⟨#[32]⟩:ByteArray))++x0_1)++(⟨#[32]⟩:ByteArray))++(af x0_2))++(⟨#[32,102,114,101,101]⟩:ByteArray))++((⟨#[32]⟩:ByteArray)++(ax x0_4 (⟨#[44]⟩:ByteArray))))++(⟨#[10]⟩:ByteArray)))] (AC (ai (tab:=E.tab) (t:=9) h0)<|AC (ai (tab:=E.tab) (t:=9) h1)<|AC (ai (tab:=E.tab) (t:=9) h2)<|AC (ai (tab:=E.tab) (t:=9) h3)<|AD (cY x0_2 h4)<|AC (ai (tab:=E.tab) (t:=9) h5)<|AC (ai (tab:=E.tab) (t:=9) h6)<|ALn x0_4 etS<|AC h7<|AD (dn x0_4 (⟨#[44]⟩:ByteArray) h8)<|AC (ai (tab:=E.tab) (t:=9) h9)<|AC (ai (tab:=E.tab) (t:=9) h10)<|AC (ai (tab:=E.tab) (t:=9) h11)<|AN))
  ·refine Ig (fun h8 => ?_)
   exact Ib (DP Tryz.f36 [.val (.string ((⟨#[116,97,115,107,32]⟩:ByteArray)++x0_0)),.val (.string (((⟨#[116,97,115,107,32]⟩:ByteArray)++x0_0)++(⟨#[32]⟩:ByteArray))),.val (.string ((((⟨#[116,97,115,107,32]⟩:ByteArray)++x0_0)++(⟨#[32]⟩:ByteArray))++x0_1)),.val (.string (((((⟨#[116,97,115,107,32]⟩:ByteArray)++x0_0)++(⟨#[32]⟩:ByteArray))++x0_1)++(⟨#[32]⟩:ByteArray))),.ret [(false,[tS (af x0_2)])],.val (.string ((((((⟨#[116,97,115,107,32]⟩:ByteArray)++x0_0)++(⟨#[32]⟩:ByteArray))++x0_1)++(⟨#[32]⟩:ByteArray))++(af x0_2))),.val (.string (((((((⟨#[116,97,115,107,32]⟩:ByteArray)++x0_0)++(⟨#[32]⟩:ByteArray))++x0_1)++(⟨#[32]⟩:ByteArray))++(af x0_2))++(⟨#[32,102,114,101,101]⟩:ByteArray))),.val (.int .i64 (x0_4.length:Int)),.b false,.val (.string ((((((((⟨#[116,97,115,107,32]⟩:ByteArray)++x0_0)++(⟨#[32]⟩:ByteArray))++x0_1)++(⟨#[32]⟩:ByteArray))++(af x0_2))++(⟨#[32,102,114,101,101]⟩:ByteArray))++(⟨#[10]⟩:ByteArray)))] (AC (ai (tab:=E.tab) (t:=9) h0)<|AC (ai (tab:=E.tab) (t:=9) h1)<|AC (ai (tab:=E.tab) (t:=9) h2)<|AC (ai (tab:=E.tab) (t:=9) h3)<|AD (cY x0_2 h4)<|AC (ai (tab:=E.tab) (t:=9) h5)<|AC (ai (tab:=E.tab) (t:=9) h6)<|ALn x0_4 etS<|AC h7<|AC (ai (tab:=E.tab) (t:=9) h8)<|AN))
noncomputable def pQ (t:GTask):List UInt8:=(cond t.f3 [32,112,97,115,116] [32,102,114,101,101])++(cond (decide ((t.f4.length:Int)>0)) (32::tx (db t.f4)) [])++[10]
noncomputable def cB (t:GTask):ByteArray:=ofTx ([116,97,115,107,32]++tx t.f0++[32]++tx t.f1++[32]++tx (af t.f2)++pQ t)
theorem yq {n:Int} (h:0≤n∧n≤3):(af n).size≤2:=by
 rw [br]
 exact px (by omega)
theorem ql {t:GTask} (h:an.sm t) (h4:t.f4.length≤4) (h2:0≤t.f2∧t.f2≤3):(cB t).size≤20000000:=by
 have a:(tx t.f0).length≤1050000:=by rw [← br];exact h.1
 have b:(tx t.f1).length≤1050000:=by rw [← br];exact h.2.1
 have c:(tx (af t.f2)).length≤2:=by rw [← br];exact yq h2
 have d:(tx (db t.f4)).length≤8000000:=by rw [← br];exact py h.2.2 h4
 unfold cB pQ
 rw [kk]
 simp only [List.length_append,List.length_cons,List.length_nil]
 cases t.f3<;>cases decide ((t.f4.length:Int)>0)<;>simp only [cond_true,cond_false,List.length_cons,List.length_nil]<;>omega
theorem FG (t:GTask) (h:an.sm t) (h4:t.f4.length≤4) (h2:0≤t.f2∧t.f2≤3):kH t=some (cB t):=by
 have a:t.f0.size≤1050000:=h.1
 have b:t.f1.size≤1050000:=h.2.1
 have c:=yq h2
 have d:(ax t.f4 ⟨#[44]⟩).size≤8000000:=py h.2.2 h4
 have e1:(⟨#[116,97,115,107,32]⟩:ByteArray).size=5:=rfl
 have e2:(⟨#[32]⟩:ByteArray).size=1:=rfl
 have e3:(⟨#[32,112,97,115,116]⟩:ByteArray).size=5:=rfl
 have e4:(⟨#[32,102,114,101,101]⟩:ByteArray).size=5:=rfl
 have e5:(⟨#[10]⟩:ByteArray).size=1:=rfl
 have t1:tx (⟨#[116,97,115,107,32]⟩:ByteArray)=[116,97,115,107,32]:=rfl
 have t2:tx (⟨#[32]⟩:ByteArray)=[32]:=rfl
 have t3:tx (⟨#[32,112,97,115,116]⟩:ByteArray)=[32,112,97,115,116]:=rfl
 have t4:tx (⟨#[32,102,114,101,101]⟩:ByteArray)=[32,102,114,101,101]:=rfl
 have t5:tx (⟨#[10]⟩:ByteArray)=[10]:=rfl
 unfold kH cB pQ db
 cases t.f3 <;>
 ·simp only [ByteArray.size_append,e1,e2,e3,e4,e5,ak]
  repeat rw [if_pos (by omega)]
  cases decide ((t.f4.length:Int)>0)
  ·simp only [cond_false]
   repeat rw [if_pos (by omega)]
   refine congrArg some (lb ?_)
   simp [fF,hU,t1,t2,t3,t4,t5]
  ·simp only [cond_true]
   repeat rw [if_pos (by first | omega | exact ⟨by omega,by omega⟩)]
   refine congrArg some (lb ?_)
   simp [fF,hU,t1,t2,t3,t4,t5]
theorem xn (x0:GTask) (h:an.sm x0) (h4:x0.f4.length≤4) (h2:0≤x0.f2∧x0.f2≤3):Does E 36 [.agg (GTask.t .far x0)] [(false,[tS (cB x0)])]:=by
 exact yk x0 _ (FG x0 h h4 h2)
inductive rz where
 | x0 (v4:ByteArray)
def c8 (q0:Kd) (v1_0 v1_1:ByteArray) (v1_2 v1_3:Int) (v1_4:Bool) (v1_5:List GTask) (v4:ByteArray) (v5:Int):US:=stL 79 [(1,.box () [tS v1_0,tS v1_1,tI v1_2,tI v1_3,tB v1_4,.s .far () 5 (v1_5.map (GTask.t q0))]),(4,.one (tS v4)),(5,.one (tI v5))]
def ja (q0:Kd) (zv4:ByteArray):US:=stL 79 [(4,.one (tS zv4))]
abbrev iE:US→Exit→US→Prop:=Round E 13 (au Tryz.f13 0)
def yZ {q0:Kd} (v1_0 v1_1:ByteArray) (v1_2 v1_3:Int) (v1_4:Bool) (v1_5:List GTask) (v4:ByteArray) (v5:Int):rz→Prop
 | .x0 zv4=>Loops E 13 (au Tryz.f13 0) (c8 q0 v1_0 v1_1 v1_2 v1_3 v1_4 v1_5 v4 v5) (.exit 0) (ja q0 zv4)
noncomputable def b8  : List GTask→Nat→Bool→ByteArray→Option rz
 | [],i,v1_4,v4=>some (.x0 v4)
 | hd::rest,i,v1_4,v4=>cond (hd.f3)
  (if v4.size+(⟨#[116,97,115,107,32]⟩:ByteArray).size≤ak then if (v4++(⟨#[116,97,115,107,32]⟩:ByteArray)).size+hd.f0.size≤ak then if ((v4++(⟨#[116,97,115,107,32]⟩:ByteArray))++hd.f0).size+(⟨#[32]⟩:ByteArray).size≤ak then if (((v4++(⟨#[116,97,115,107,32]⟩:ByteArray))++hd.f0)++(⟨#[32]⟩:ByteArray)).size+hd.f1.size≤ak then if ((((v4++(⟨#[116,97,115,107,32]⟩:ByteArray))++hd.f0)++(⟨#[32]⟩:ByteArray))++hd.f1).size+(⟨#[32]⟩:ByteArray).size≤ak then if -9223372036854775808≤hd.f2∧hd.f2≤9223372036854775807 then if (((((v4++(⟨#[116,97,115,107,32]⟩:ByteArray))++hd.f0)++(⟨#[32]⟩:ByteArray))++hd.f1)++(⟨#[32]⟩:ByteArray)).size+(af hd.f2).size≤ak then if ((((((v4++(⟨#[116,97,115,107,32]⟩:ByteArray))++hd.f0)++(⟨#[32]⟩:ByteArray))++hd.f1)++(⟨#[32]⟩:ByteArray))++(af hd.f2)).size+(⟨#[32,112,97,115,116]⟩:ByteArray).size≤ak then cond (decide ((hd.f4.length:Int)>(0:Int)))
   (if (((((((v4++(⟨#[116,97,115,107,32]⟩:ByteArray))++hd.f0)++(⟨#[32]⟩:ByteArray))++hd.f1)++(⟨#[32]⟩:ByteArray))++(af hd.f2))++(⟨#[32,112,97,115,116]⟩:ByteArray)).size+(⟨#[32]⟩:ByteArray).size≤ak then if an.sm hd.f4 then if hd.f4.length≤4 then if ((((((((v4++(⟨#[116,97,115,107,32]⟩:ByteArray))++hd.f0)++(⟨#[32]⟩:ByteArray))++hd.f1)++(⟨#[32]⟩:ByteArray))++(af hd.f2))++(⟨#[32,112,97,115,116]⟩:ByteArray))++(⟨#[32]⟩:ByteArray)).size+(db hd.f4).size≤ak then if (((((((((v4++(⟨#[116,97,115,107,32]⟩:ByteArray))++hd.f0)++(⟨#[32]⟩:ByteArray))++hd.f1)++(⟨#[32]⟩:ByteArray))++(af hd.f2))++(⟨#[32,112,97,115,116]⟩:ByteArray))++(⟨#[32]⟩:ByteArray))++(db hd.f4)).size+(⟨#[10]⟩:ByteArray).size≤ak then b8 rest (i+1) v1_4 ((((((((((v4++(⟨#[116,97,115,107,32]⟩:ByteArray))++hd.f0)++(⟨#[32]⟩:ByteArray))++hd.f1)++(⟨#[32]⟩:ByteArray))++(af hd.f2))++(⟨#[32,112,97,115,116]⟩:ByteArray))++(⟨#[32]⟩:ByteArray))++(db hd.f4))++(⟨#[10]⟩:ByteArray)) else none else none else none else none else none)
   (if (((((((v4++(⟨#[116,97,115,107,32]⟩:ByteArray))++hd.f0)++(⟨#[32]⟩:ByteArray))++hd.f1)++(⟨#[32]⟩:ByteArray))++(af hd.f2))++(⟨#[32,112,97,115,116]⟩:ByteArray)).size+(⟨#[10]⟩:ByteArray).size≤ak then b8 rest (i+1) v1_4 ((((((((v4++(⟨#[116,97,115,107,32]⟩:ByteArray))++hd.f0)++(⟨#[32]⟩:ByteArray))++hd.f1)++(⟨#[32]⟩:ByteArray))++(af hd.f2))++(⟨#[32,112,97,115,116]⟩:ByteArray))++(⟨#[10]⟩:ByteArray)) else none) else none else none else none else none else none else none else none else none)
  (if v4.size+(⟨#[116,97,115,107,32]⟩:ByteArray).size≤ak then if (v4++(⟨#[116,97,115,107,32]⟩:ByteArray)).size+hd.f0.size≤ak then if ((v4++(⟨#[116,97,115,107,32]⟩:ByteArray))++hd.f0).size+(⟨#[32]⟩:ByteArray).size≤ak then if (((v4++(⟨#[116,97,115,107,32]⟩:ByteArray))++hd.f0)++(⟨#[32]⟩:ByteArray)).size+hd.f1.size≤ak then if ((((v4++(⟨#[116,97,115,107,32]⟩:ByteArray))++hd.f0)++(⟨#[32]⟩:ByteArray))++hd.f1).size+(⟨#[32]⟩:ByteArray).size≤ak then if -9223372036854775808≤hd.f2∧hd.f2≤9223372036854775807 then if (((((v4++(⟨#[116,97,115,107,32]⟩:ByteArray))++hd.f0)++(⟨#[32]⟩:ByteArray))++hd.f1)++(⟨#[32]⟩:ByteArray)).size+(af hd.f2).size≤ak then if ((((((v4++(⟨#[116,97,115,107,32]⟩:ByteArray))++hd.f0)++(⟨#[32]⟩:ByteArray))++hd.f1)++(⟨#[32]⟩:ByteArray))++(af hd.f2)).size+(⟨#[32,102,114,101,101]⟩:ByteArray).size≤ak then cond (decide ((hd.f4.length:Int)>(0:Int)))
   (if (((((((v4++(⟨#[116,97,115,107,32]⟩:ByteArray))++hd.f0)++(⟨#[32]⟩:ByteArray))++hd.f1)++(⟨#[32]⟩:ByteArray))++(af hd.f2))++(⟨#[32,102,114,101,101]⟩:ByteArray)).size+(⟨#[32]⟩:ByteArray).size≤ak then if an.sm hd.f4 then if hd.f4.length≤4 then if ((((((((v4++(⟨#[116,97,115,107,32]⟩:ByteArray))++hd.f0)++(⟨#[32]⟩:ByteArray))++hd.f1)++(⟨#[32]⟩:ByteArray))++(af hd.f2))++(⟨#[32,102,114,101,101]⟩:ByteArray))++(⟨#[32]⟩:ByteArray)).size+(db hd.f4).size≤ak then if (((((((((v4++(⟨#[116,97,115,107,32]⟩:ByteArray))++hd.f0)++(⟨#[32]⟩:ByteArray))++hd.f1)++(⟨#[32]⟩:ByteArray))++(af hd.f2))++(⟨#[32,102,114,101,101]⟩:ByteArray))++(⟨#[32]⟩:ByteArray))++(db hd.f4)).size+(⟨#[10]⟩:ByteArray).size≤ak then b8 rest (i+1) v1_4 ((((((((((v4++(⟨#[116,97,115,107,32]⟩:ByteArray))++hd.f0)++(⟨#[32]⟩:ByteArray))++hd.f1)++(⟨#[32]⟩:ByteArray))++(af hd.f2))++(⟨#[32,102,114,101,101]⟩:ByteArray))++(⟨#[32]⟩:ByteArray))++(db hd.f4))++(⟨#[10]⟩:ByteArray)) else none else none else none else none else none)
   (if (((((((v4++(⟨#[116,97,115,107,32]⟩:ByteArray))++hd.f0)++(⟨#[32]⟩:ByteArray))++hd.f1)++(⟨#[32]⟩:ByteArray))++(af hd.f2))++(⟨#[32,102,114,101,101]⟩:ByteArray)).size+(⟨#[10]⟩:ByteArray).size≤ak then b8 rest (i+1) v1_4 ((((((((v4++(⟨#[116,97,115,107,32]⟩:ByteArray))++hd.f0)++(⟨#[32]⟩:ByteArray))++hd.f1)++(⟨#[32]⟩:ByteArray))++(af hd.f2))++(⟨#[32,102,114,101,101]⟩:ByteArray))++(⟨#[10]⟩:ByteArray)) else none) else none else none else none else none else none else none else none else none)
theorem ry {q0:Kd} (v1_0 v1_1:ByteArray) (v1_2 v1_3:Int) (v1_5:List GTask) (rest:List GTask):∀ (i:Nat) (v1_4:Bool) (v4:ByteArray),(v1_5).drop i=rest→v1_5.length≤9223372036854775807→Ans (b8 rest i v1_4 v4) (yZ (q0:=q0) v1_0 v1_1 v1_2 v1_3 v1_4 v1_5 v4 (i:Int)):=by
 induction rest with
 | nil =>
  intro i v1_4 v4 hE hl
  have hb:=bq hE
  unfold b8
  exact Ib (Id (show iE (c8 q0 v1_0 v1_1 v1_2 v1_3 v1_4 v1_5 v4 (i:Int)) (.exit 0) (ja q0 v4) from RP [.val (.int .i64 (v1_5.length:Int)),.b false] (ALn v1_5 (GTask.t q0)<|AC hb<|AN)) (by intro h;cases h))
 | cons hd rest ih =>
  intro i v1_4 v4 hE hl
  have hb:=a8 hE
  have hw:=ba hE hl
  have hE2:=aG hE
  have hg:=bd hE
  unfold b8
  apply Ie<;>intro h2
  ·refine Ig (fun h3 => ?_)
   refine Ig (fun h4 => ?_)
   refine Ig (fun h5 => ?_)
   refine Ig (fun h6 => ?_)
   refine Ig (fun h7 => ?_)
   refine Ig (fun h8 => ?_)
   refine Ig (fun h9 => ?_)
   refine Ig (fun h10 => ?_)
   apply Ie<;>intro h11
   ·refine Ig (fun h12 => ?_)
    refine Ig (fun h13 => ?_)
    refine Ig (fun h14 => ?_)
    refine Ig (fun h15 => ?_)
    refine Ig (fun h16 => ?_)
    exact (ih (i+1) v1_4 ((((((((((v4++(⟨#[116,97,115,107,32]⟩:ByteArray))++hd.f0)++(⟨#[32]⟩:ByteArray))++hd.f1)++(⟨#[32]⟩:ByteArray))++(af hd.f2))++(⟨#[32,112,97,115,116]⟩:ByteArray))++(⟨#[32]⟩:ByteArray))++(db hd.f4))++(⟨#[10]⟩:ByteArray)) hE2 hl).mono fun y hy=>by have r:iE (c8 q0 v1_0 v1_1 v1_2 v1_3 v1_4 v1_5 v4 (i:Int)) .normal (c8 q0 v1_0 v1_1 v1_2 v1_3 v1_4 v1_5 ((((((((((v4++(⟨#[116,97,115,107,32]⟩:ByteArray))++hd.f0)++(⟨#[32]⟩:ByteArray))++hd.f1)++(⟨#[32]⟩:ByteArray))++(af hd.f2))++(⟨#[32,112,97,115,116]⟩:ByteArray))++(⟨#[32]⟩:ByteArray))++(db hd.f4))++(⟨#[10]⟩:ByteArray)) (inc (i:Int))):=RP [.val (.int .i64 (v1_5.length:Int)),.b true,.row ([tS hd.f0,tS hd.f1,tI hd.f2,tB true,.s q0 () 1 (hd.f4.map etS)]),.val (.string (v4++(⟨#[116,97,115,107,32]⟩:ByteArray))),.val (.string ((v4++(⟨#[116,97,115,107,32]⟩:ByteArray))++hd.f0)),.val (.string (((v4++(⟨#[116,97,115,107,32]⟩:ByteArray))++hd.f0)++(⟨#[32]⟩:ByteArray))),.val (.string ((((v4++(⟨#[116,97,115,107,32]⟩:ByteArray))++hd.f0)++(⟨#[32]⟩:ByteArray))++hd.f1)),.val (.string (((((v4++(⟨#[116,97,115,107,32]⟩:ByteArray))++hd.f0)++(⟨#[32]⟩:ByteArray))++hd.f1)++(⟨#[32]⟩:ByteArray))),.ret [(false,[tS (af hd.f2)])],.val (.string ((((((v4++(⟨#[116,97,115,107,32]⟩:ByteArray))++hd.f0)++(⟨#[32]⟩:ByteArray))++hd.f1)++(⟨#[32]⟩:ByteArray))++(af hd.f2))),.val (.string (((((((v4++(⟨#[116,97,115,107,32]⟩:ByteArray))++hd.f0)++(⟨#[32]⟩:ByteArray))++hd.f1)++(⟨#[32]⟩:ByteArray))++(af hd.f2))++(⟨#[32,112,97,115,116]⟩:ByteArray))),.val (.int .i64 (hd.f4.length:Int)),.b true,.val (.string ((((((((v4++(⟨#[116,97,115,107,32]⟩:ByteArray))++hd.f0)++(⟨#[32]⟩:ByteArray))++hd.f1)++(⟨#[32]⟩:ByteArray))++(af hd.f2))++(⟨#[32,112,97,115,116]⟩:ByteArray))++(⟨#[32]⟩:ByteArray))),.ret [(false,[tS (db hd.f4)])],.val (.string (((((((((v4++(⟨#[116,97,115,107,32]⟩:ByteArray))++hd.f0)++(⟨#[32]⟩:ByteArray))++hd.f1)++(⟨#[32]⟩:ByteArray))++(af hd.f2))++(⟨#[32,112,97,115,116]⟩:ByteArray))++(⟨#[32]⟩:ByteArray))++(db hd.f4))),.val (.string ((((((((((v4++(⟨#[116,97,115,107,32]⟩:ByteArray))++hd.f0)++(⟨#[32]⟩:ByteArray))++hd.f1)++(⟨#[32]⟩:ByteArray))++(af hd.f2))++(⟨#[32,112,97,115,116]⟩:ByteArray))++(⟨#[32]⟩:ByteArray))++(db hd.f4))++(⟨#[10]⟩:ByteArray)))] (ALn v1_5 (GTask.t q0)<|AC hb<|AC (p:=0≤(i:Int)∧(v1_5.map (GTask.t q0))[(i:Int).toNat]?=some ([tS hd.f0,tS hd.f1,tI hd.f2,tB true,.s q0 () 1 (hd.f4.map etS)])) ⟨(ju (f:=(GTask.t q0)) hg).1,(ju hg).2.trans (congrArg some (show [tS hd.f0,tS hd.f1,tI hd.f2,tB hd.f3,.s q0 () 1 (hd.f4.map etS)]=[tS hd.f0,tS hd.f1,tI hd.f2,tB true,.s q0 () 1 (hd.f4.map etS)] by rw [h2]))⟩<|AC (ai (tab:=E.tab) (t:=9) h3)<|AC (ai (tab:=E.tab) (t:=9) h4)<|AC (ai (tab:=E.tab) (t:=9) h5)<|AC (ai (tab:=E.tab) (t:=9) h6)<|AC (ai (tab:=E.tab) (t:=9) h7)<|AD (cD hd.f2 h8)<|AC (ai (tab:=E.tab) (t:=9) h9)<|AC (ai (tab:=E.tab) (t:=9) h10)<|ALn hd.f4 etS<|AC h11<|AC (ai (tab:=E.tab) (t:=9) h12)<|AD (r8 hd.f4 h13 h14)<|AC (ai (tab:=E.tab) (t:=9) h15)<|AC (ai (tab:=E.tab) (t:=9) h16)<|AN);rw [hw] at r;cases y<;>exact Ic r hy
   ·refine Ig (fun h12 => ?_)
    exact (ih (i+1) v1_4 ((((((((v4++(⟨#[116,97,115,107,32]⟩:ByteArray))++hd.f0)++(⟨#[32]⟩:ByteArray))++hd.f1)++(⟨#[32]⟩:ByteArray))++(af hd.f2))++(⟨#[32,112,97,115,116]⟩:ByteArray))++(⟨#[10]⟩:ByteArray)) hE2 hl).mono fun y hy=>by have r:iE (c8 q0 v1_0 v1_1 v1_2 v1_3 v1_4 v1_5 v4 (i:Int)) .normal (c8 q0 v1_0 v1_1 v1_2 v1_3 v1_4 v1_5 ((((((((v4++(⟨#[116,97,115,107,32]⟩:ByteArray))++hd.f0)++(⟨#[32]⟩:ByteArray))++hd.f1)++(⟨#[32]⟩:ByteArray))++(af hd.f2))++(⟨#[32,112,97,115,116]⟩:ByteArray))++(⟨#[10]⟩:ByteArray)) (inc (i:Int))):=RP [.val (.int .i64 (v1_5.length:Int)),.b true,.row ([tS hd.f0,tS hd.f1,tI hd.f2,tB true,.s q0 () 1 (hd.f4.map etS)]),.val (.string (v4++(⟨#[116,97,115,107,32]⟩:ByteArray))),.val (.string ((v4++(⟨#[116,97,115,107,32]⟩:ByteArray))++hd.f0)),.val (.string (((v4++(⟨#[116,97,115,107,32]⟩:ByteArray))++hd.f0)++(⟨#[32]⟩:ByteArray))),.val (.string ((((v4++(⟨#[116,97,115,107,32]⟩:ByteArray))++hd.f0)++(⟨#[32]⟩:ByteArray))++hd.f1)),.val (.string (((((v4++(⟨#[116,97,115,107,32]⟩:ByteArray))++hd.f0)++(⟨#[32]⟩:ByteArray))++hd.f1)++(⟨#[32]⟩:ByteArray))),.ret [(false,[tS (af hd.f2)])],.val (.string ((((((v4++(⟨#[116,97,115,107,32]⟩:ByteArray))++hd.f0)++(⟨#[32]⟩:ByteArray))++hd.f1)++(⟨#[32]⟩:ByteArray))++(af hd.f2))),.val (.string (((((((v4++(⟨#[116,97,115,107,32]⟩:ByteArray))++hd.f0)++(⟨#[32]⟩:ByteArray))++hd.f1)++(⟨#[32]⟩:ByteArray))++(af hd.f2))++(⟨#[32,112,97,115,116]⟩:ByteArray))),.val (.int .i64 (hd.f4.length:Int)),.b false,.val (.string ((((((((v4++(⟨#[116,97,115,107,32]⟩:ByteArray))++hd.f0)++(⟨#[32]⟩:ByteArray))++hd.f1)++(⟨#[32]⟩:ByteArray))++(af hd.f2))++(⟨#[32,112,97,115,116]⟩:ByteArray))++(⟨#[10]⟩:ByteArray)))] (ALn v1_5 (GTask.t q0)<|AC hb<|AC (p:=0≤(i:Int)∧(v1_5.map (GTask.t q0))[(i:Int).toNat]?=some ([tS hd.f0,tS hd.f1,tI hd.f2,tB true,.s q0 () 1 (hd.f4.map etS)])) ⟨(ju (f:=(GTask.t q0)) hg).1,(ju hg).2.trans (congrArg some (show [tS hd.f0,tS hd.f1,tI hd.f2,tB hd.f3,.s q0 () 1 (hd.f4.map etS)]=[tS hd.f0,tS hd.f1,tI hd.f2,tB true,.s q0 () 1 (hd.f4.map etS)] by rw [h2]))⟩<|AC (ai (tab:=E.tab) (t:=9) h3)<|AC (ai (tab:=E.tab) (t:=9) h4)<|AC (ai (tab:=E.tab) (t:=9) h5)<|AC (ai (tab:=E.tab) (t:=9) h6)<|AC (ai (tab:=E.tab) (t:=9) h7)<|AD (cD hd.f2 h8)<|AC (ai (tab:=E.tab) (t:=9) h9)<|AC (ai (tab:=E.tab) (t:=9) h10)<|ALn hd.f4 etS<|AC h11<|AC (ai (tab:=E.tab) (t:=9) h12)<|AN);rw [hw] at r;cases y<;>exact Ic r hy
  ·refine Ig (fun h3 => ?_)
   refine Ig (fun h4 => ?_)
   refine Ig (fun h5 => ?_)
   refine Ig (fun h6 => ?_)
   refine Ig (fun h7 => ?_)
   refine Ig (fun h8 => ?_)
   refine Ig (fun h9 => ?_)
   refine Ig (fun h10 => ?_)
   apply Ie<;>intro h11
   ·refine Ig (fun h12 => ?_)
    refine Ig (fun h13 => ?_)
    refine Ig (fun h14 => ?_)
    refine Ig (fun h15 => ?_)
    refine Ig (fun h16 => ?_)
    exact (ih (i+1) v1_4 ((((((((((v4++(⟨#[116,97,115,107,32]⟩:ByteArray))++hd.f0)++(⟨#[32]⟩:ByteArray))++hd.f1)++(⟨#[32]⟩:ByteArray))++(af hd.f2))++(⟨#[32,102,114,101,101]⟩:ByteArray))++(⟨#[32]⟩:ByteArray))++(db hd.f4))++(⟨#[10]⟩:ByteArray)) hE2 hl).mono fun y hy=>by have r:iE (c8 q0 v1_0 v1_1 v1_2 v1_3 v1_4 v1_5 v4 (i:Int)) .normal (c8 q0 v1_0 v1_1 v1_2 v1_3 v1_4 v1_5 ((((((((((v4++(⟨#[116,97,115,107,32]⟩:ByteArray))++hd.f0)++(⟨#[32]⟩:ByteArray))++hd.f1)++(⟨#[32]⟩:ByteArray))++(af hd.f2))++(⟨#[32,102,114,101,101]⟩:ByteArray))++(⟨#[32]⟩:ByteArray))++(db hd.f4))++(⟨#[10]⟩:ByteArray)) (inc (i:Int))):=RP [.val (.int .i64 (v1_5.length:Int)),.b true,.row ([tS hd.f0,tS hd.f1,tI hd.f2,tB false,.s q0 () 1 (hd.f4.map etS)]),.val (.string (v4++(⟨#[116,97,115,107,32]⟩:ByteArray))),.val (.string ((v4++(⟨#[116,97,115,107,32]⟩:ByteArray))++hd.f0)),.val (.string (((v4++(⟨#[116,97,115,107,32]⟩:ByteArray))++hd.f0)++(⟨#[32]⟩:ByteArray))),.val (.string ((((v4++(⟨#[116,97,115,107,32]⟩:ByteArray))++hd.f0)++(⟨#[32]⟩:ByteArray))++hd.f1)),.val (.string (((((v4++(⟨#[116,97,115,107,32]⟩:ByteArray))++hd.f0)++(⟨#[32]⟩:ByteArray))++hd.f1)++(⟨#[32]⟩:ByteArray))),.ret [(false,[tS (af hd.f2)])],.val (.string ((((((v4++(⟨#[116,97,115,107,32]⟩:ByteArray))++hd.f0)++(⟨#[32]⟩:ByteArray))++hd.f1)++(⟨#[32]⟩:ByteArray))++(af hd.f2))),.val (.string (((((((v4++(⟨#[116,97,115,107,32]⟩:ByteArray))++hd.f0)++(⟨#[32]⟩:ByteArray))++hd.f1)++(⟨#[32]⟩:ByteArray))++(af hd.f2))++(⟨#[32,102,114,101,101]⟩:ByteArray))),.val (.int .i64 (hd.f4.length:Int)),.b true,.val (.string ((((((((v4++(⟨#[116,97,115,107,32]⟩:ByteArray))++hd.f0)++(⟨#[32]⟩:ByteArray))++hd.f1)++(⟨#[32]⟩:ByteArray))++(af hd.f2))++(⟨#[32,102,114,101,101]⟩:ByteArray))++(⟨#[32]⟩:ByteArray))),.ret [(false,[tS (db hd.f4)])],.val (.string (((((((((v4++(⟨#[116,97,115,107,32]⟩:ByteArray))++hd.f0)++(⟨#[32]⟩:ByteArray))++hd.f1)++(⟨#[32]⟩:ByteArray))++(af hd.f2))++(⟨#[32,102,114,101,101]⟩:ByteArray))++(⟨#[32]⟩:ByteArray))++(db hd.f4))),.val (.string ((((((((((v4++(⟨#[116,97,115,107,32]⟩:ByteArray))++hd.f0)++(⟨#[32]⟩:ByteArray))++hd.f1)++(⟨#[32]⟩:ByteArray))++(af hd.f2))++(⟨#[32,102,114,101,101]⟩:ByteArray))++(⟨#[32]⟩:ByteArray))++(db hd.f4))++(⟨#[10]⟩:ByteArray)))] (ALn v1_5 (GTask.t q0)<|AC hb<|AC (p:=0≤(i:Int)∧(v1_5.map (GTask.t q0))[(i:Int).toNat]?=some ([tS hd.f0,tS hd.f1,tI hd.f2,tB false,.s q0 () 1 (hd.f4.map etS)])) ⟨(ju (f:=(GTask.t q0)) hg).1,(ju hg).2.trans (congrArg some (show [tS hd.f0,tS hd.f1,tI hd.f2,tB hd.f3,.s q0 () 1 (hd.f4.map etS)]=[tS hd.f0,tS hd.f1,tI hd.f2,tB false,.s q0 () 1 (hd.f4.map etS)] by rw [h2]))⟩<|AC (ai (tab:=E.tab) (t:=9) h3)<|AC (ai (tab:=E.tab) (t:=9) h4)<|AC (ai (tab:=E.tab) (t:=9) h5)<|AC (ai (tab:=E.tab) (t:=9) h6)<|AC (ai (tab:=E.tab) (t:=9) h7)<|AD (cD hd.f2 h8)<|AC (ai (tab:=E.tab) (t:=9) h9)<|AC (ai (tab:=E.tab) (t:=9) h10)<|ALn hd.f4 etS<|AC h11<|AC (ai (tab:=E.tab) (t:=9) h12)<|AD (r8 hd.f4 h13 h14)<|AC (ai (tab:=E.tab) (t:=9) h15)<|AC (ai (tab:=E.tab) (t:=9) h16)<|AN);rw [hw] at r;cases y<;>exact Ic r hy
   ·refine Ig (fun h12 => ?_)
    exact (ih (i+1) v1_4 ((((((((v4++(⟨#[116,97,115,107,32]⟩:ByteArray))++hd.f0)++(⟨#[32]⟩:ByteArray))++hd.f1)++(⟨#[32]⟩:ByteArray))++(af hd.f2))++(⟨#[32,102,114,101,101]⟩:ByteArray))++(⟨#[10]⟩:ByteArray)) hE2 hl).mono fun y hy=>by have r:iE (c8 q0 v1_0 v1_1 v1_2 v1_3 v1_4 v1_5 v4 (i:Int)) .normal (c8 q0 v1_0 v1_1 v1_2 v1_3 v1_4 v1_5 ((((((((v4++(⟨#[116,97,115,107,32]⟩:ByteArray))++hd.f0)++(⟨#[32]⟩:ByteArray))++hd.f1)++(⟨#[32]⟩:ByteArray))++(af hd.f2))++(⟨#[32,102,114,101,101]⟩:ByteArray))++(⟨#[10]⟩:ByteArray)) (inc (i:Int))):=RP [.val (.int .i64 (v1_5.length:Int)),.b true,.row ([tS hd.f0,tS hd.f1,tI hd.f2,tB false,.s q0 () 1 (hd.f4.map etS)]),.val (.string (v4++(⟨#[116,97,115,107,32]⟩:ByteArray))),.val (.string ((v4++(⟨#[116,97,115,107,32]⟩:ByteArray))++hd.f0)),.val (.string (((v4++(⟨#[116,97,115,107,32]⟩:ByteArray))++hd.f0)++(⟨#[32]⟩:ByteArray))),.val (.string ((((v4++(⟨#[116,97,115,107,32]⟩:ByteArray))++hd.f0)++(⟨#[32]⟩:ByteArray))++hd.f1)),.val (.string (((((v4++(⟨#[116,97,115,107,32]⟩:ByteArray))++hd.f0)++(⟨#[32]⟩:ByteArray))++hd.f1)++(⟨#[32]⟩:ByteArray))),.ret [(false,[tS (af hd.f2)])],.val (.string ((((((v4++(⟨#[116,97,115,107,32]⟩:ByteArray))++hd.f0)++(⟨#[32]⟩:ByteArray))++hd.f1)++(⟨#[32]⟩:ByteArray))++(af hd.f2))),.val (.string (((((((v4++(⟨#[116,97,115,107,32]⟩:ByteArray))++hd.f0)++(⟨#[32]⟩:ByteArray))++hd.f1)++(⟨#[32]⟩:ByteArray))++(af hd.f2))++(⟨#[32,102,114,101,101]⟩:ByteArray))),.val (.int .i64 (hd.f4.length:Int)),.b false,.val (.string ((((((((v4++(⟨#[116,97,115,107,32]⟩:ByteArray))++hd.f0)++(⟨#[32]⟩:ByteArray))++hd.f1)++(⟨#[32]⟩:ByteArray))++(af hd.f2))++(⟨#[32,102,114,101,101]⟩:ByteArray))++(⟨#[10]⟩:ByteArray)))] (ALn v1_5 (GTask.t q0)<|AC hb<|AC (p:=0≤(i:Int)∧(v1_5.map (GTask.t q0))[(i:Int).toNat]?=some ([tS hd.f0,tS hd.f1,tI hd.f2,tB false,.s q0 () 1 (hd.f4.map etS)])) ⟨(ju (f:=(GTask.t q0)) hg).1,(ju hg).2.trans (congrArg some (show [tS hd.f0,tS hd.f1,tI hd.f2,tB hd.f3,.s q0 () 1 (hd.f4.map etS)]=[tS hd.f0,tS hd.f1,tI hd.f2,tB false,.s q0 () 1 (hd.f4.map etS)] by rw [h2]))⟩<|AC (ai (tab:=E.tab) (t:=9) h3)<|AC (ai (tab:=E.tab) (t:=9) h4)<|AC (ai (tab:=E.tab) (t:=9) h5)<|AC (ai (tab:=E.tab) (t:=9) h6)<|AC (ai (tab:=E.tab) (t:=9) h7)<|AD (cD hd.f2 h8)<|AC (ai (tab:=E.tab) (t:=9) h9)<|AC (ai (tab:=E.tab) (t:=9) h10)<|ALn hd.f4 etS<|AC h11<|AC (ai (tab:=E.tab) (t:=9) h12)<|AN);rw [hw] at r;cases y<;>exact Ic r hy
noncomputable def lS (x0:GDag):Option (ByteArray×Bool) :=
  match x0.f4 with
   | true=>if an.sm (GDag.mk x0.f0 x0.f1 x0.f2 x0.f3 true x0.f5) then cond (fu (GDag.mk x0.f0 x0.f1 x0.f2 x0.f3 true x0.f5))
    (if (⟨#[100,97,103,32]⟩:ByteArray).size+x0.f0.size≤ak then if ((⟨#[100,97,103,32]⟩:ByteArray)++x0.f0).size+(⟨#[10,99,114,111,110,32]⟩:ByteArray).size≤ak then if (((⟨#[100,97,103,32]⟩:ByteArray)++x0.f0)++(⟨#[10,99,114,111,110,32]⟩:ByteArray)).size+x0.f1.size≤ak then if ((((⟨#[100,97,103,32]⟩:ByteArray)++x0.f0)++(⟨#[10,99,114,111,110,32]⟩:ByteArray))++x0.f1).size+(⟨#[10,102,114,111,109,32]⟩:ByteArray).size≤ak then if -9223372036854775808≤x0.f2∧x0.f2≤9223372036854775807 then if (((((⟨#[100,97,103,32]⟩:ByteArray)++x0.f0)++(⟨#[10,99,114,111,110,32]⟩:ByteArray))++x0.f1)++(⟨#[10,102,114,111,109,32]⟩:ByteArray)).size+(af x0.f2).size≤ak then if ((((((⟨#[100,97,103,32]⟩:ByteArray)++x0.f0)++(⟨#[10,99,114,111,110,32]⟩:ByteArray))++x0.f1)++(⟨#[10,102,114,111,109,32]⟩:ByteArray))++(af x0.f2)).size+(⟨#[10,116,111,32]⟩:ByteArray).size≤ak then if -9223372036854775808≤x0.f3∧x0.f3≤9223372036854775807 then if (((((((⟨#[100,97,103,32]⟩:ByteArray)++x0.f0)++(⟨#[10,99,114,111,110,32]⟩:ByteArray))++x0.f1)++(⟨#[10,102,114,111,109,32]⟩:ByteArray))++(af x0.f2))++(⟨#[10,116,111,32]⟩:ByteArray)).size+(af x0.f3).size≤ak then if ((((((((⟨#[100,97,103,32]⟩:ByteArray)++x0.f0)++(⟨#[10,99,114,111,110,32]⟩:ByteArray))++x0.f1)++(⟨#[10,102,114,111,109,32]⟩:ByteArray))++(af x0.f2))++(⟨#[10,116,111,32]⟩:ByteArray))++(af x0.f3)).size+(⟨#[10]⟩:ByteArray).size≤ak then if (((((((((⟨#[100,97,103,32]⟩:ByteArray)++x0.f0)++(⟨#[10,99,114,111,110,32]⟩:ByteArray))++x0.f1)++(⟨#[10,102,114,111,109,32]⟩:ByteArray))++(af x0.f2))++(⟨#[10,116,111,32]⟩:ByteArray))++(af x0.f3))++(⟨#[10]⟩:ByteArray)).size+(⟨#[99,97,116,99,104,117,112,10]⟩:ByteArray).size≤ak then if x0.f5.length≤9223372036854775807 then (b8 x0.f5 0 true ((((((((((⟨#[100,97,103,32]⟩:ByteArray)++x0.f0)++(⟨#[10,99,114,111,110,32]⟩:ByteArray))++x0.f1)++(⟨#[10,102,114,111,109,32]⟩:ByteArray))++(af x0.f2))++(⟨#[10,116,111,32]⟩:ByteArray))++(af x0.f3))++(⟨#[10]⟩:ByteArray))++(⟨#[99,97,116,99,104,117,112,10]⟩:ByteArray))).bind fun y=>match y with
     | .x0 w0_4=>(some (w0_4,true)) else none else none else none else none else none else none else none else none else none else none else none else none)
    (some (ByteArray.empty,false)) else none
   | false=>if an.sm (GDag.mk x0.f0 x0.f1 x0.f2 x0.f3 false x0.f5) then cond (fu (GDag.mk x0.f0 x0.f1 x0.f2 x0.f3 false x0.f5))
    (if (⟨#[100,97,103,32]⟩:ByteArray).size+x0.f0.size≤ak then if ((⟨#[100,97,103,32]⟩:ByteArray)++x0.f0).size+(⟨#[10,99,114,111,110,32]⟩:ByteArray).size≤ak then if (((⟨#[100,97,103,32]⟩:ByteArray)++x0.f0)++(⟨#[10,99,114,111,110,32]⟩:ByteArray)).size+x0.f1.size≤ak then if ((((⟨#[100,97,103,32]⟩:ByteArray)++x0.f0)++(⟨#[10,99,114,111,110,32]⟩:ByteArray))++x0.f1).size+(⟨#[10,102,114,111,109,32]⟩:ByteArray).size≤ak then if -9223372036854775808≤x0.f2∧x0.f2≤9223372036854775807 then if (((((⟨#[100,97,103,32]⟩:ByteArray)++x0.f0)++(⟨#[10,99,114,111,110,32]⟩:ByteArray))++x0.f1)++(⟨#[10,102,114,111,109,32]⟩:ByteArray)).size+(af x0.f2).size≤ak then if ((((((⟨#[100,97,103,32]⟩:ByteArray)++x0.f0)++(⟨#[10,99,114,111,110,32]⟩:ByteArray))++x0.f1)++(⟨#[10,102,114,111,109,32]⟩:ByteArray))++(af x0.f2)).size+(⟨#[10,116,111,32]⟩:ByteArray).size≤ak then if -9223372036854775808≤x0.f3∧x0.f3≤9223372036854775807 then if (((((((⟨#[100,97,103,32]⟩:ByteArray)++x0.f0)++(⟨#[10,99,114,111,110,32]⟩:ByteArray))++x0.f1)++(⟨#[10,102,114,111,109,32]⟩:ByteArray))++(af x0.f2))++(⟨#[10,116,111,32]⟩:ByteArray)).size+(af x0.f3).size≤ak then if ((((((((⟨#[100,97,103,32]⟩:ByteArray)++x0.f0)++(⟨#[10,99,114,111,110,32]⟩:ByteArray))++x0.f1)++(⟨#[10,102,114,111,109,32]⟩:ByteArray))++(af x0.f2))++(⟨#[10,116,111,32]⟩:ByteArray))++(af x0.f3)).size+(⟨#[10]⟩:ByteArray).size≤ak then if (((((((((⟨#[100,97,103,32]⟩:ByteArray)++x0.f0)++(⟨#[10,99,114,111,110,32]⟩:ByteArray))++x0.f1)++(⟨#[10,102,114,111,109,32]⟩:ByteArray))++(af x0.f2))++(⟨#[10,116,111,32]⟩:ByteArray))++(af x0.f3))++(⟨#[10]⟩:ByteArray)).size+(⟨#[108,97,116,101,115,116,10]⟩:ByteArray).size≤ak then if x0.f5.length≤9223372036854775807 then (b8 x0.f5 0 false ((((((((((⟨#[100,97,103,32]⟩:ByteArray)++x0.f0)++(⟨#[10,99,114,111,110,32]⟩:ByteArray))++x0.f1)++(⟨#[10,102,114,111,109,32]⟩:ByteArray))++(af x0.f2))++(⟨#[10,116,111,32]⟩:ByteArray))++(af x0.f3))++(⟨#[10]⟩:ByteArray))++(⟨#[108,97,116,101,115,116,10]⟩:ByteArray))).bind fun y=>match y with
     | .x0 w0_4=>(some (w0_4,true)) else none else none else none else none else none else none else none else none else none else none else none else none)
    (some (ByteArray.empty,false)) else none
theorem Av {q0:Kd} (x0:GDag):Ans (lS x0) (fun r=>Does E 13 [.agg (GDag.t .far q0 x0)] [(false,[tS r.1]),(false,[tB r.2])]):=by
 obtain ⟨x0_0,x0_1,x0_2,x0_3,x0_4,x0_5⟩:=x0
 unfold lS
 cases x0_4 with
 | true =>
  refine Ig (fun h0 => ?_)
  apply Ie<;>intro h1
  ·refine Ig (fun h2 => ?_)
   refine Ig (fun h3 => ?_)
   refine Ig (fun h4 => ?_)
   refine Ig (fun h5 => ?_)
   refine Ig (fun h6 => ?_)
   refine Ig (fun h7 => ?_)
   refine Ig (fun h8 => ?_)
   refine Ig (fun h9 => ?_)
   refine Ig (fun h10 => ?_)
   refine Ig (fun h11 => ?_)
   refine Ig (fun h12 => ?_)
   refine Ig (fun hl3 => ?_)
   refine If (fun y hy => ?_)
   replace hy:=ry (q0:=q0) x0_0 x0_1 x0_2 x0_3 x0_5 x0_5 0 true ((((((((((⟨#[100,97,103,32]⟩:ByteArray)++x0_0)++(⟨#[10,99,114,111,110,32]⟩:ByteArray))++x0_1)++(⟨#[10,102,114,111,109,32]⟩:ByteArray))++(af x0_2))++(⟨#[10,116,111,32]⟩:ByteArray))++(af x0_3))++(⟨#[10]⟩:ByteArray))++(⟨#[99,97,116,99,104,117,112,10]⟩:ByteArray)) rfl hl3 y hy
   cases y with
   | x0 w0_4 =>
    have h13:=hy
    exact Ib (DP Tryz.f13 [rT,.val (.string ((⟨#[100,97,103,32]⟩:ByteArray)++x0_0)),.val (.string (((⟨#[100,97,103,32]⟩:ByteArray)++x0_0)++(⟨#[10,99,114,111,110,32]⟩:ByteArray))),.val (.string ((((⟨#[100,97,103,32]⟩:ByteArray)++x0_0)++(⟨#[10,99,114,111,110,32]⟩:ByteArray))++x0_1)),.val (.string (((((⟨#[100,97,103,32]⟩:ByteArray)++x0_0)++(⟨#[10,99,114,111,110,32]⟩:ByteArray))++x0_1)++(⟨#[10,102,114,111,109,32]⟩:ByteArray))),.ret [(false,[tS (af x0_2)])],.val (.string ((((((⟨#[100,97,103,32]⟩:ByteArray)++x0_0)++(⟨#[10,99,114,111,110,32]⟩:ByteArray))++x0_1)++(⟨#[10,102,114,111,109,32]⟩:ByteArray))++(af x0_2))),.val (.string (((((((⟨#[100,97,103,32]⟩:ByteArray)++x0_0)++(⟨#[10,99,114,111,110,32]⟩:ByteArray))++x0_1)++(⟨#[10,102,114,111,109,32]⟩:ByteArray))++(af x0_2))++(⟨#[10,116,111,32]⟩:ByteArray))),.ret [(false,[tS (af x0_3)])],.val (.string ((((((((⟨#[100,97,103,32]⟩:ByteArray)++x0_0)++(⟨#[10,99,114,111,110,32]⟩:ByteArray))++x0_1)++(⟨#[10,102,114,111,109,32]⟩:ByteArray))++(af x0_2))++(⟨#[10,116,111,32]⟩:ByteArray))++(af x0_3))),.val (.string (((((((((⟨#[100,97,103,32]⟩:ByteArray)++x0_0)++(⟨#[10,99,114,111,110,32]⟩:ByteArray))++x0_1)++(⟨#[10,102,114,111,109,32]⟩:ByteArray))++(af x0_2))++(⟨#[10,116,111,32]⟩:ByteArray))++(af x0_3))++(⟨#[10]⟩:ByteArray))),.val (.string ((((((((((⟨#[100,97,103,32]⟩:ByteArray)++x0_0)++(⟨#[10,99,114,111,110,32]⟩:ByteArray))++x0_1)++(⟨#[10,102,114,111,109,32]⟩:ByteArray))++(af x0_2))++(⟨#[10,116,111,32]⟩:ByteArray))++(af x0_3))++(⟨#[10]⟩:ByteArray))++(⟨#[99,97,116,99,104,117,112,10]⟩:ByteArray))),.lp (.exit 0) (ja q0 w0_4)] (AV (ψ:=fun k=>E.C k 32 [.agg (GDag.t .far q0 (GDag.mk x0_0 x0_1 x0_2 x0_3 true x0_5))]=some [(false,[tB true])]) (Ih (nB (GDag.mk x0_0 x0_1 x0_2 x0_3 true x0_5) h0) (by rw [h1]))<|AC (ai (tab:=E.tab) (t:=9) h2)<|AC (ai (tab:=E.tab) (t:=9) h3)<|AC (ai (tab:=E.tab) (t:=9) h4)<|AC (ai (tab:=E.tab) (t:=9) h5)<|AD (cD x0_2 h6)<|AC (ai (tab:=E.tab) (t:=9) h7)<|AC (ai (tab:=E.tab) (t:=9) h8)<|AD (cD x0_3 h9)<|AC (ai (tab:=E.tab) (t:=9) h10)<|AC (ai (tab:=E.tab) (t:=9) h11)<|AC (ai (tab:=E.tab) (t:=9) h12)<|AL h13<|AN))
  ·exact Ib (DP Tryz.f13 [rF] (AV (ψ:=fun k=>E.C k 32 [.agg (GDag.t .far q0 (GDag.mk x0_0 x0_1 x0_2 x0_3 true x0_5))]=some [(false,[tB false])]) (Ih (nB (GDag.mk x0_0 x0_1 x0_2 x0_3 true x0_5) h0) (by rw [h1]))<|AN))
 | false =>
  refine Ig (fun h0 => ?_)
  apply Ie<;>intro h1
  ·refine Ig (fun h2 => ?_)
   refine Ig (fun h3 => ?_)
   refine Ig (fun h4 => ?_)
   refine Ig (fun h5 => ?_)
   refine Ig (fun h6 => ?_)
   refine Ig (fun h7 => ?_)
   refine Ig (fun h8 => ?_)
   refine Ig (fun h9 => ?_)
   refine Ig (fun h10 => ?_)
   refine Ig (fun h11 => ?_)
   refine Ig (fun h12 => ?_)
   refine Ig (fun hl3 => ?_)
   refine If (fun y hy => ?_)
   replace hy:=ry (q0:=q0) x0_0 x0_1 x0_2 x0_3 x0_5 x0_5 0 false ((((((((((⟨#[100,97,103,32]⟩:ByteArray)++x0_0)++(⟨#[10,99,114,111,110,32]⟩:ByteArray))++x0_1)++(⟨#[10,102,114,111,109,32]⟩:ByteArray))++(af x0_2))++(⟨#[10,116,111,32]⟩:ByteArray))++(af x0_3))++(⟨#[10]⟩:ByteArray))++(⟨#[108,97,116,101,115,116,10]⟩:ByteArray)) rfl hl3 y hy
   cases y with
   | x0 w0_4 =>
    have h13:=hy
    exact Ib (DP Tryz.f13 [rT,.val (.string ((⟨#[100,97,103,32]⟩:ByteArray)++x0_0)),.val (.string (((⟨#[100,97,103,32]⟩:ByteArray)++x0_0)++(⟨#[10,99,114,111,110,32]⟩:ByteArray))),.val (.string ((((⟨#[100,97,103,32]⟩:ByteArray)++x0_0)++(⟨#[10,99,114,111,110,32]⟩:ByteArray))++x0_1)),.val (.string (((((⟨#[100,97,103,32]⟩:ByteArray)++x0_0)++(⟨#[10,99,114,111,110,32]⟩:ByteArray))++x0_1)++(⟨#[10,102,114,111,109,32]⟩:ByteArray))),.ret [(false,[tS (af x0_2)])],.val (.string ((((((⟨#[100,97,103,32]⟩:ByteArray)++x0_0)++(⟨#[10,99,114,111,110,32]⟩:ByteArray))++x0_1)++(⟨#[10,102,114,111,109,32]⟩:ByteArray))++(af x0_2))),.val (.string (((((((⟨#[100,97,103,32]⟩:ByteArray)++x0_0)++(⟨#[10,99,114,111,110,32]⟩:ByteArray))++x0_1)++(⟨#[10,102,114,111,109,32]⟩:ByteArray))++(af x0_2))++(⟨#[10,116,111,32]⟩:ByteArray))),.ret [(false,[tS (af x0_3)])],.val (.string ((((((((⟨#[100,97,103,32]⟩:ByteArray)++x0_0)++(⟨#[10,99,114,111,110,32]⟩:ByteArray))++x0_1)++(⟨#[10,102,114,111,109,32]⟩:ByteArray))++(af x0_2))++(⟨#[10,116,111,32]⟩:ByteArray))++(af x0_3))),.val (.string (((((((((⟨#[100,97,103,32]⟩:ByteArray)++x0_0)++(⟨#[10,99,114,111,110,32]⟩:ByteArray))++x0_1)++(⟨#[10,102,114,111,109,32]⟩:ByteArray))++(af x0_2))++(⟨#[10,116,111,32]⟩:ByteArray))++(af x0_3))++(⟨#[10]⟩:ByteArray))),.val (.string ((((((((((⟨#[100,97,103,32]⟩:ByteArray)++x0_0)++(⟨#[10,99,114,111,110,32]⟩:ByteArray))++x0_1)++(⟨#[10,102,114,111,109,32]⟩:ByteArray))++(af x0_2))++(⟨#[10,116,111,32]⟩:ByteArray))++(af x0_3))++(⟨#[10]⟩:ByteArray))++(⟨#[108,97,116,101,115,116,10]⟩:ByteArray))),.lp (.exit 0) (ja q0 w0_4)] (AV (ψ:=fun k=>E.C k 32 [.agg (GDag.t .far q0 (GDag.mk x0_0 x0_1 x0_2 x0_3 false x0_5))]=some [(false,[tB true])]) (Ih (nB (GDag.mk x0_0 x0_1 x0_2 x0_3 false x0_5) h0) (by rw [h1]))<|AC (ai (tab:=E.tab) (t:=9) h2)<|AC (ai (tab:=E.tab) (t:=9) h3)<|AC (ai (tab:=E.tab) (t:=9) h4)<|AC (ai (tab:=E.tab) (t:=9) h5)<|AD (cD x0_2 h6)<|AC (ai (tab:=E.tab) (t:=9) h7)<|AC (ai (tab:=E.tab) (t:=9) h8)<|AD (cD x0_3 h9)<|AC (ai (tab:=E.tab) (t:=9) h10)<|AC (ai (tab:=E.tab) (t:=9) h11)<|AC (ai (tab:=E.tab) (t:=9) h12)<|AL h13<|AN))
  ·exact Ib (DP Tryz.f13 [rF] (AV (ψ:=fun k=>E.C k 32 [.agg (GDag.t .far q0 (GDag.mk x0_0 x0_1 x0_2 x0_3 false x0_5))]=some [(false,[tB false])]) (Ih (nB (GDag.mk x0_0 x0_1 x0_2 x0_3 false x0_5) h0) (by rw [h1]))<|AN))
inductive qV where
 | x0 (v4:ByteArray)
def kC (q0:Kd) (v4:ByteArray) (v35:List GTask) (v36 v37:Int):US:=stL 47 [(4,.one (tS v4)),(35,.one (.s .far () 5 (v35.map (GTask.t q0)))),(36,.one (tI v36)),(37,.one (tI v37))]
def iS (q0:Kd) (zv4:ByteArray):US:=stL 47 [(4,.one (tS zv4))]
abbrev qT:US→Exit→US→Prop:=Round E 14 (au Tryz.f14 0)
def yb {q0:Kd} (v4:ByteArray) (v35:List GTask) (v36 v37:Int):qV→Prop
 | .x0 zv4=>Loops E 14 (au Tryz.f14 0) (kC q0 v4 v35 v36 v37) (.exit 0) (iS q0 zv4)
noncomputable def dE  : List GTask→Nat→ByteArray→Option qV
 | [],i,v4=>some (.x0 v4)
 | hd::rest,i,v4=>if an.sm hd then if hd.f4.length≤4 then if 0≤hd.f2∧hd.f2≤3 then if v4.size+(cB hd).size≤ak then dE rest (i+1) (v4++(cB hd)) else none else none else none else none
theorem qU {q0:Kd} (v35:List GTask) (rest:List GTask):∀ (i:Nat) (v4:ByteArray),(v35).drop i=rest→v35.length≤9223372036854775807→Ans (dE rest i v4) (yb (q0:=q0) v4 v35 (v35.length:Int) (i:Int)):=by
 induction rest with
 | nil =>
  intro i v4 hE hl
  have hb:=bq hE
  unfold dE
  exact Ib (Id (show qT (kC q0 v4 v35 (v35.length:Int) (i:Int)) (.exit 0) (iS q0 v4) from RP [.b false] (AC hb<|AN)) (by intro h;cases h))
 | cons hd rest ih =>
  intro i v4 hE hl
  have hb:=a8 hE
  have hw:=ba hE hl
  have hE2:=aG hE
  have hg:=bd hE
  unfold dE
  refine Ig (fun h2 => ?_)
  refine Ig (fun h3 => ?_)
  refine Ig (fun h4 => ?_)
  refine Ig (fun h5 => ?_)
  exact (ih (i+1) (v4++(cB hd)) hE2 hl).mono fun y hy=>by have r:qT (kC q0 v4 v35 (v35.length:Int) (i:Int)) .normal (kC q0 (v4++(cB hd)) v35 (v35.length:Int) (inc (i:Int))):=RP [.b true,.row ((GTask.t q0) hd),.ret [(false,[tS (cB hd)])],.val (.string (v4++(cB hd)))] (AC hb<|AR (GTask.t q0) hg<|AD (xn hd h2 h3 h4)<|AC (ai (tab:=E.tab) (t:=9) h5)<|AN);rw [hw] at r;cases y<;>exact Ic r hy
noncomputable def lM (x0:GDag):Option (ByteArray×Bool) :=
  match x0.f4 with
   | true=>if an.sm (GDag.mk x0.f0 x0.f1 x0.f2 x0.f3 true x0.f5) then cond (fu (GDag.mk x0.f0 x0.f1 x0.f2 x0.f3 true x0.f5))
    (if (⟨#[100,97,103,32]⟩:ByteArray).size+x0.f0.size≤ak then if ((⟨#[100,97,103,32]⟩:ByteArray)++x0.f0).size+(⟨#[10,99,114,111,110,32]⟩:ByteArray).size≤ak then if (((⟨#[100,97,103,32]⟩:ByteArray)++x0.f0)++(⟨#[10,99,114,111,110,32]⟩:ByteArray)).size+x0.f1.size≤ak then if ((((⟨#[100,97,103,32]⟩:ByteArray)++x0.f0)++(⟨#[10,99,114,111,110,32]⟩:ByteArray))++x0.f1).size+(⟨#[10,102,114,111,109,32]⟩:ByteArray).size≤ak then if -9223372036854775808≤x0.f2∧x0.f2≤9223372036854775807 then if (((((⟨#[100,97,103,32]⟩:ByteArray)++x0.f0)++(⟨#[10,99,114,111,110,32]⟩:ByteArray))++x0.f1)++(⟨#[10,102,114,111,109,32]⟩:ByteArray)).size+(af x0.f2).size≤ak then if ((((((⟨#[100,97,103,32]⟩:ByteArray)++x0.f0)++(⟨#[10,99,114,111,110,32]⟩:ByteArray))++x0.f1)++(⟨#[10,102,114,111,109,32]⟩:ByteArray))++(af x0.f2)).size+(⟨#[10,116,111,32]⟩:ByteArray).size≤ak then if -9223372036854775808≤x0.f3∧x0.f3≤9223372036854775807 then if (((((((⟨#[100,97,103,32]⟩:ByteArray)++x0.f0)++(⟨#[10,99,114,111,110,32]⟩:ByteArray))++x0.f1)++(⟨#[10,102,114,111,109,32]⟩:ByteArray))++(af x0.f2))++(⟨#[10,116,111,32]⟩:ByteArray)).size+(af x0.f3).size≤ak then if ((((((((⟨#[100,97,103,32]⟩:ByteArray)++x0.f0)++(⟨#[10,99,114,111,110,32]⟩:ByteArray))++x0.f1)++(⟨#[10,102,114,111,109,32]⟩:ByteArray))++(af x0.f2))++(⟨#[10,116,111,32]⟩:ByteArray))++(af x0.f3)).size+(⟨#[10]⟩:ByteArray).size≤ak then if (((((((((⟨#[100,97,103,32]⟩:ByteArray)++x0.f0)++(⟨#[10,99,114,111,110,32]⟩:ByteArray))++x0.f1)++(⟨#[10,102,114,111,109,32]⟩:ByteArray))++(af x0.f2))++(⟨#[10,116,111,32]⟩:ByteArray))++(af x0.f3))++(⟨#[10]⟩:ByteArray)).size+(⟨#[99,97,116,99,104,117,112,10]⟩:ByteArray).size≤ak then if x0.f5.length≤9223372036854775807 then (dE x0.f5 0 ((((((((((⟨#[100,97,103,32]⟩:ByteArray)++x0.f0)++(⟨#[10,99,114,111,110,32]⟩:ByteArray))++x0.f1)++(⟨#[10,102,114,111,109,32]⟩:ByteArray))++(af x0.f2))++(⟨#[10,116,111,32]⟩:ByteArray))++(af x0.f3))++(⟨#[10]⟩:ByteArray))++(⟨#[99,97,116,99,104,117,112,10]⟩:ByteArray))).bind fun y=>match y with
     | .x0 w0_4=>(some (w0_4,true)) else none else none else none else none else none else none else none else none else none else none else none else none)
    (some (ByteArray.empty,false)) else none
   | false=>if an.sm (GDag.mk x0.f0 x0.f1 x0.f2 x0.f3 false x0.f5) then cond (fu (GDag.mk x0.f0 x0.f1 x0.f2 x0.f3 false x0.f5))
    (if (⟨#[100,97,103,32]⟩:ByteArray).size+x0.f0.size≤ak then if ((⟨#[100,97,103,32]⟩:ByteArray)++x0.f0).size+(⟨#[10,99,114,111,110,32]⟩:ByteArray).size≤ak then if (((⟨#[100,97,103,32]⟩:ByteArray)++x0.f0)++(⟨#[10,99,114,111,110,32]⟩:ByteArray)).size+x0.f1.size≤ak then if ((((⟨#[100,97,103,32]⟩:ByteArray)++x0.f0)++(⟨#[10,99,114,111,110,32]⟩:ByteArray))++x0.f1).size+(⟨#[10,102,114,111,109,32]⟩:ByteArray).size≤ak then if -9223372036854775808≤x0.f2∧x0.f2≤9223372036854775807 then if (((((⟨#[100,97,103,32]⟩:ByteArray)++x0.f0)++(⟨#[10,99,114,111,110,32]⟩:ByteArray))++x0.f1)++(⟨#[10,102,114,111,109,32]⟩:ByteArray)).size+(af x0.f2).size≤ak then if ((((((⟨#[100,97,103,32]⟩:ByteArray)++x0.f0)++(⟨#[10,99,114,111,110,32]⟩:ByteArray))++x0.f1)++(⟨#[10,102,114,111,109,32]⟩:ByteArray))++(af x0.f2)).size+(⟨#[10,116,111,32]⟩:ByteArray).size≤ak then if -9223372036854775808≤x0.f3∧x0.f3≤9223372036854775807 then if (((((((⟨#[100,97,103,32]⟩:ByteArray)++x0.f0)++(⟨#[10,99,114,111,110,32]⟩:ByteArray))++x0.f1)++(⟨#[10,102,114,111,109,32]⟩:ByteArray))++(af x0.f2))++(⟨#[10,116,111,32]⟩:ByteArray)).size+(af x0.f3).size≤ak then if ((((((((⟨#[100,97,103,32]⟩:ByteArray)++x0.f0)++(⟨#[10,99,114,111,110,32]⟩:ByteArray))++x0.f1)++(⟨#[10,102,114,111,109,32]⟩:ByteArray))++(af x0.f2))++(⟨#[10,116,111,32]⟩:ByteArray))++(af x0.f3)).size+(⟨#[10]⟩:ByteArray).size≤ak then if (((((((((⟨#[100,97,103,32]⟩:ByteArray)++x0.f0)++(⟨#[10,99,114,111,110,32]⟩:ByteArray))++x0.f1)++(⟨#[10,102,114,111,109,32]⟩:ByteArray))++(af x0.f2))++(⟨#[10,116,111,32]⟩:ByteArray))++(af x0.f3))++(⟨#[10]⟩:ByteArray)).size+(⟨#[108,97,116,101,115,116,10]⟩:ByteArray).size≤ak then if x0.f5.length≤9223372036854775807 then (dE x0.f5 0 ((((((((((⟨#[100,97,103,32]⟩:ByteArray)++x0.f0)++(⟨#[10,99,114,111,110,32]⟩:ByteArray))++x0.f1)++(⟨#[10,102,114,111,109,32]⟩:ByteArray))++(af x0.f2))++(⟨#[10,116,111,32]⟩:ByteArray))++(af x0.f3))++(⟨#[10]⟩:ByteArray))++(⟨#[108,97,116,101,115,116,10]⟩:ByteArray))).bind fun y=>match y with
     | .x0 w0_4=>(some (w0_4,true)) else none else none else none else none else none else none else none else none else none else none else none else none)
    (some (ByteArray.empty,false)) else none
theorem Ab {q0:Kd} (x0:GDag):Ans (lM x0) (fun r=>Does E 14 [.agg (GDag.t .far q0 x0)] [(false,[tS r.1]),(false,[tB r.2])]):=by
 obtain ⟨x0_0,x0_1,x0_2,x0_3,x0_4,x0_5⟩:=x0
 unfold lM
 cases x0_4 with
 | true =>
  refine Ig (fun h0 => ?_)
  apply Ie<;>intro h1
  ·refine Ig (fun h2 => ?_)
   refine Ig (fun h3 => ?_)
   refine Ig (fun h4 => ?_)
   refine Ig (fun h5 => ?_)
   refine Ig (fun h6 => ?_)
   refine Ig (fun h7 => ?_)
   refine Ig (fun h8 => ?_)
   refine Ig (fun h9 => ?_)
   refine Ig (fun h10 => ?_)
   refine Ig (fun h11 => ?_)
   refine Ig (fun h12 => ?_)
   refine Ig (fun hl3 => ?_)
   refine If (fun y hy => ?_)
   replace hy:=qU (q0:=q0) x0_5 x0_5 0 ((((((((((⟨#[100,97,103,32]⟩:ByteArray)++x0_0)++(⟨#[10,99,114,111,110,32]⟩:ByteArray))++x0_1)++(⟨#[10,102,114,111,109,32]⟩:ByteArray))++(af x0_2))++(⟨#[10,116,111,32]⟩:ByteArray))++(af x0_3))++(⟨#[10]⟩:ByteArray))++(⟨#[99,97,116,99,104,117,112,10]⟩:ByteArray)) rfl hl3 y hy
   cases y with
   | x0 w0_4 =>
    have h13:=hy
    exact Ib (DP Tryz.f14 [rT,.val (.string ((⟨#[100,97,103,32]⟩:ByteArray)++x0_0)),.val (.string (((⟨#[100,97,103,32]⟩:ByteArray)++x0_0)++(⟨#[10,99,114,111,110,32]⟩:ByteArray))),.val (.string ((((⟨#[100,97,103,32]⟩:ByteArray)++x0_0)++(⟨#[10,99,114,111,110,32]⟩:ByteArray))++x0_1)),.val (.string (((((⟨#[100,97,103,32]⟩:ByteArray)++x0_0)++(⟨#[10,99,114,111,110,32]⟩:ByteArray))++x0_1)++(⟨#[10,102,114,111,109,32]⟩:ByteArray))),.ret [(false,[tS (af x0_2)])],.val (.string ((((((⟨#[100,97,103,32]⟩:ByteArray)++x0_0)++(⟨#[10,99,114,111,110,32]⟩:ByteArray))++x0_1)++(⟨#[10,102,114,111,109,32]⟩:ByteArray))++(af x0_2))),.val (.string (((((((⟨#[100,97,103,32]⟩:ByteArray)++x0_0)++(⟨#[10,99,114,111,110,32]⟩:ByteArray))++x0_1)++(⟨#[10,102,114,111,109,32]⟩:ByteArray))++(af x0_2))++(⟨#[10,116,111,32]⟩:ByteArray))),.ret [(false,[tS (af x0_3)])],.val (.string ((((((((⟨#[100,97,103,32]⟩:ByteArray)++x0_0)++(⟨#[10,99,114,111,110,32]⟩:ByteArray))++x0_1)++(⟨#[10,102,114,111,109,32]⟩:ByteArray))++(af x0_2))++(⟨#[10,116,111,32]⟩:ByteArray))++(af x0_3))),.val (.string (((((((((⟨#[100,97,103,32]⟩:ByteArray)++x0_0)++(⟨#[10,99,114,111,110,32]⟩:ByteArray))++x0_1)++(⟨#[10,102,114,111,109,32]⟩:ByteArray))++(af x0_2))++(⟨#[10,116,111,32]⟩:ByteArray))++(af x0_3))++(⟨#[10]⟩:ByteArray))),.val (.string ((((((((((⟨#[100,97,103,32]⟩:ByteArray)++x0_0)++(⟨#[10,99,114,111,110,32]⟩:ByteArray))++x0_1)++(⟨#[10,102,114,111,109,32]⟩:ByteArray))++(af x0_2))++(⟨#[10,116,111,32]⟩:ByteArray))++(af x0_3))++(⟨#[10]⟩:ByteArray))++(⟨#[99,97,116,99,104,117,112,10]⟩:ByteArray))),.val (.int .i64 (x0_5.length:Int)),.lp (.exit 0) (iS q0 w0_4)] (AV (ψ:=fun k=>E.C k 28 [.agg (GDag.t .far q0 (GDag.mk x0_0 x0_1 x0_2 x0_3 true x0_5))]=some [(false,[tB true])]) (Ih (nz (GDag.mk x0_0 x0_1 x0_2 x0_3 true x0_5) h0) (by rw [h1]))<|AC (ai (tab:=E.tab) (t:=9) h2)<|AC (ai (tab:=E.tab) (t:=9) h3)<|AC (ai (tab:=E.tab) (t:=9) h4)<|AC (ai (tab:=E.tab) (t:=9) h5)<|AD (cY x0_2 h6)<|AC (ai (tab:=E.tab) (t:=9) h7)<|AC (ai (tab:=E.tab) (t:=9) h8)<|AD (cY x0_3 h9)<|AC (ai (tab:=E.tab) (t:=9) h10)<|AC (ai (tab:=E.tab) (t:=9) h11)<|AC (ai (tab:=E.tab) (t:=9) h12)<|ALn x0_5 (GTask.t q0)<|AL h13<|AN))
  ·exact Ib (DP Tryz.f14 [rF] (AV (ψ:=fun k=>E.C k 28 [.agg (GDag.t .far q0 (GDag.mk x0_0 x0_1 x0_2 x0_3 true x0_5))]=some [(false,[tB false])]) (Ih (nz (GDag.mk x0_0 x0_1 x0_2 x0_3 true x0_5) h0) (by rw [h1]))<|AN))
 | false =>
  refine Ig (fun h0 => ?_)
  apply Ie<;>intro h1
  ·refine Ig (fun h2 => ?_)
   refine Ig (fun h3 => ?_)
   refine Ig (fun h4 => ?_)
   refine Ig (fun h5 => ?_)
   refine Ig (fun h6 => ?_)
   refine Ig (fun h7 => ?_)
   refine Ig (fun h8 => ?_)
   refine Ig (fun h9 => ?_)
   refine Ig (fun h10 => ?_)
   refine Ig (fun h11 => ?_)
   refine Ig (fun h12 => ?_)
   refine Ig (fun hl3 => ?_)
   refine If (fun y hy => ?_)
   replace hy:=qU (q0:=q0) x0_5 x0_5 0 ((((((((((⟨#[100,97,103,32]⟩:ByteArray)++x0_0)++(⟨#[10,99,114,111,110,32]⟩:ByteArray))++x0_1)++(⟨#[10,102,114,111,109,32]⟩:ByteArray))++(af x0_2))++(⟨#[10,116,111,32]⟩:ByteArray))++(af x0_3))++(⟨#[10]⟩:ByteArray))++(⟨#[108,97,116,101,115,116,10]⟩:ByteArray)) rfl hl3 y hy
   cases y with
   | x0 w0_4 =>
    have h13:=hy
    exact Ib (DP Tryz.f14 [rT,.val (.string ((⟨#[100,97,103,32]⟩:ByteArray)++x0_0)),.val (.string (((⟨#[100,97,103,32]⟩:ByteArray)++x0_0)++(⟨#[10,99,114,111,110,32]⟩:ByteArray))),.val (.string ((((⟨#[100,97,103,32]⟩:ByteArray)++x0_0)++(⟨#[10,99,114,111,110,32]⟩:ByteArray))++x0_1)),.val (.string (((((⟨#[100,97,103,32]⟩:ByteArray)++x0_0)++(⟨#[10,99,114,111,110,32]⟩:ByteArray))++x0_1)++(⟨#[10,102,114,111,109,32]⟩:ByteArray))),.ret [(false,[tS (af x0_2)])],.val (.string ((((((⟨#[100,97,103,32]⟩:ByteArray)++x0_0)++(⟨#[10,99,114,111,110,32]⟩:ByteArray))++x0_1)++(⟨#[10,102,114,111,109,32]⟩:ByteArray))++(af x0_2))),.val (.string (((((((⟨#[100,97,103,32]⟩:ByteArray)++x0_0)++(⟨#[10,99,114,111,110,32]⟩:ByteArray))++x0_1)++(⟨#[10,102,114,111,109,32]⟩:ByteArray))++(af x0_2))++(⟨#[10,116,111,32]⟩:ByteArray))),.ret [(false,[tS (af x0_3)])],.val (.string ((((((((⟨#[100,97,103,32]⟩:ByteArray)++x0_0)++(⟨#[10,99,114,111,110,32]⟩:ByteArray))++x0_1)++(⟨#[10,102,114,111,109,32]⟩:ByteArray))++(af x0_2))++(⟨#[10,116,111,32]⟩:ByteArray))++(af x0_3))),.val (.string (((((((((⟨#[100,97,103,32]⟩:ByteArray)++x0_0)++(⟨#[10,99,114,111,110,32]⟩:ByteArray))++x0_1)++(⟨#[10,102,114,111,109,32]⟩:ByteArray))++(af x0_2))++(⟨#[10,116,111,32]⟩:ByteArray))++(af x0_3))++(⟨#[10]⟩:ByteArray))),.val (.string ((((((((((⟨#[100,97,103,32]⟩:ByteArray)++x0_0)++(⟨#[10,99,114,111,110,32]⟩:ByteArray))++x0_1)++(⟨#[10,102,114,111,109,32]⟩:ByteArray))++(af x0_2))++(⟨#[10,116,111,32]⟩:ByteArray))++(af x0_3))++(⟨#[10]⟩:ByteArray))++(⟨#[108,97,116,101,115,116,10]⟩:ByteArray))),.val (.int .i64 (x0_5.length:Int)),.lp (.exit 0) (iS q0 w0_4)] (AV (ψ:=fun k=>E.C k 28 [.agg (GDag.t .far q0 (GDag.mk x0_0 x0_1 x0_2 x0_3 false x0_5))]=some [(false,[tB true])]) (Ih (nz (GDag.mk x0_0 x0_1 x0_2 x0_3 false x0_5) h0) (by rw [h1]))<|AC (ai (tab:=E.tab) (t:=9) h2)<|AC (ai (tab:=E.tab) (t:=9) h3)<|AC (ai (tab:=E.tab) (t:=9) h4)<|AC (ai (tab:=E.tab) (t:=9) h5)<|AD (cY x0_2 h6)<|AC (ai (tab:=E.tab) (t:=9) h7)<|AC (ai (tab:=E.tab) (t:=9) h8)<|AD (cY x0_3 h9)<|AC (ai (tab:=E.tab) (t:=9) h10)<|AC (ai (tab:=E.tab) (t:=9) h11)<|AC (ai (tab:=E.tab) (t:=9) h12)<|ALn x0_5 (GTask.t q0)<|AL h13<|AN))
  ·exact Ib (DP Tryz.f14 [rF] (AV (ψ:=fun k=>E.C k 28 [.agg (GDag.t .far q0 (GDag.mk x0_0 x0_1 x0_2 x0_3 false x0_5))]=some [(false,[tB false])]) (Ih (nz (GDag.mk x0_0 x0_1 x0_2 x0_3 false x0_5) h0) (by rw [h1]))<|AN))
noncomputable def iC (l:List GTask):List UInt8:=(l.map fun t=>tx (cB t)).flatten
def lL (d:GDag):List UInt8:=[100,97,103,32]++tx d.f0++[10,99,114,111,110,32]++tx d.f1++[10,102,114,111,109,32]++tx (af d.f2)++[10,116,111,32]++tx (af d.f3)++[10]++cond d.f4 [99,97,116,99,104,117,112,10] [108,97,116,101,115,116,10]
noncomputable def aI (d:GDag):ByteArray×Bool:=cond (fu d) (ofTx (lL d++iC d.f5),true) (ByteArray.empty,false)
def Fit (t:GTask):Prop:=an.sm t∧t.f4.length≤4∧0≤t.f2∧t.f2≤3
theorem A5:∀ (l:List GTask) (i:Nat) (v:ByteArray),(∀ t∈l,Fit t)→v.size+l.length*20000000≤1000000000→∃ w,dE l i v=some (.x0 w)∧tx w=tx v++iC l
 | [],i,v,_,_=>⟨v,rfl,by simp [iC]⟩
 | t::l,i,v,h,hv=>by
  obtain ⟨h1,h2,h3,h4⟩:=h t (by simp)
  have hz:=ql h1 h2 ⟨h3,h4⟩
  simp only [List.length_cons] at hv
  obtain ⟨w,w1,w2⟩:=A5 l (i+1) (v++cB t) (fun y hy=>h y (by simp [hy])) (by rw [ByteArray.size_append];omega)
  refine ⟨w,?_,by rw [w2,fF];simp [iC]⟩
  unfold dE
  rw [if_pos h1,if_pos h2,if_pos ⟨h3,h4⟩,if_pos (by unfold ak;omega)]
  exact w1
theorem A6:∀ (l:List GTask) (i:Nat) (z:Bool) (v:ByteArray),(∀ t∈l,Fit t)→v.size+l.length*20000000≤1000000000→∃ w,b8 l i z v=some (.x0 w)∧tx w=tx v++iC l
 | [],i,z,v,_,_=>⟨v,rfl,by simp [iC]⟩
 | t::l,i,z,v,h,hv=>by
  obtain ⟨h1,h2,h3,h4⟩:=h t (by simp)
  have hz:=ql h1 h2 ⟨h3,h4⟩
  have a:t.f0.size≤1050000:=h1.1
  have b:t.f1.size≤1050000:=h1.2.1
  have c:=yq ⟨h3,h4⟩
  have sf:an.sm t.f4:=h1.2.2
  have d:=py sf h2
  simp only [List.length_cons] at hv
  have e1:(⟨#[116,97,115,107,32]⟩:ByteArray).size=5:=rfl
  have e2:(⟨#[32]⟩:ByteArray).size=1:=rfl
  have e3:(⟨#[32,112,97,115,116]⟩:ByteArray).size=5:=rfl
  have e4:(⟨#[32,102,114,101,101]⟩:ByteArray).size=5:=rfl
  have e5:(⟨#[10]⟩:ByteArray).size=1:=rfl
  have t1:tx (⟨#[116,97,115,107,32]⟩:ByteArray)=[116,97,115,107,32]:=rfl
  have t2:tx (⟨#[32]⟩:ByteArray)=[32]:=rfl
  have t3:tx (⟨#[32,112,97,115,116]⟩:ByteArray)=[32,112,97,115,116]:=rfl
  have t4:tx (⟨#[32,102,114,101,101]⟩:ByteArray)=[32,102,114,101,101]:=rfl
  have t5:tx (⟨#[10]⟩:ByteArray)=[10]:=rfl
  obtain ⟨w,w1,w2⟩:=A6 l (i+1) z (v++cB t) (fun y hy=>h y (by simp [hy])) (by rw [ByteArray.size_append];omega)
  refine ⟨w,?_,by rw [w2,fF];simp [iC]⟩
  have fin:∀ u:ByteArray,tx u=tx v++tx (cB t)→b8 l (i+1) z u=some (.x0 w):=fun u hu=>by
   rw [show u=v++cB t from lb (by rw [fF];exact hu)];exact w1
  unfold cB pQ at fin
  unfold b8
  cases q:t.f3<;>rw [q] at fin <;>
  ·simp only [ByteArray.size_append,e1,e2,e3,e4,e5,ak,cond_true,cond_false,if_pos sf,if_pos h2]
   repeat rw [if_pos (by omega)]
   cases q2:decide ((t.f4.length:Int)>0)<;>rw [q2] at fin
   ·simp only [cond_false]
    repeat rw [if_pos (by omega)]
    refine fin _ ?_
    simp [fF,hU,t1,t2,t3,t4,t5]
   ·simp only [cond_true]
    repeat rw [if_pos (by omega)]
    refine fin _ ?_
    simp [fF,hU,t1,t2,t3,t4,t5]
theorem EV {d:GDag} (h:an.sm d) (hd:fu d=true):∀ t∈d.f5,Fit t:=by
 obtain ⟨h4, -,hr,hgn, -⟩:=xE hd
 intro t ht
 obtain ⟨k,hk,e⟩:=List.getElem_of_mem ht
 have hg:=pF d.f5 d.f5 0 rfl hr k t (Nat.zero_le _) (by rw [List.getElem?_eq_getElem hk,e])
 rw [uH d.f5 h4] at hg
 unfold mb at hg
 simp only [Bool.and_eq_true] at hg
 have h2:=hg.1.2.2.1
 have h3:=of_decide_eq_true hg.1.2.2.2.1
 unfold aB at h2
 simp only [Bool.and_eq_true,decide_eq_true_eq] at h2
 exact ⟨h.2.2.2 t ht,h3,h2.1,h2.2⟩
theorem DY {d:GDag} (hd:fu d=true):0≤d.f2∧d.f2≤68374079∧0≤d.f3∧d.f3≤68374079:=by
 unfold fu at hd
 simp only [Bool.and_eq_true] at hd
 have h3:=hd.2.2.1
 have h2:=hd.2.2.2.1
 unfold aB at h2 h3
 simp only [Bool.and_eq_true,decide_eq_true_eq] at h2 h3
 omega
theorem C8 {n:Int} (h0:0≤n) (h:n≤68374079):(af n).size≤8:=by
 rw [br]
 show (Lib.itoa n).length≤8
 unfold Lib.itoa
 rw [if_neg (by omega)]
 exact mA 7 _ (by omega)
theorem wo (d:GDag) (h:an.sm d):lS d=some (aI d)∧lM d=some (aI d):=by
 have ed:∀ b,d.f4=b→GDag.mk d.f0 d.f1 d.f2 d.f3 b d.f5=d:=fun b hb=>by rw [← hb]
 unfold lS lM aI
 cases q:fu d with
 | false=>refine ⟨?_,?_⟩<;>split<;>rename_i hb<;>rw [ed _ hb,if_pos h,q]<;>rfl
 | true =>
  have fit:=EV h q
  obtain ⟨h4, -, -, -, -⟩:=xE q
  obtain ⟨n0,n1,n2,n3⟩:=DY q
  have z2:=C8 n0 n1
  have z3:=C8 n2 n3
  have a:d.f0.size≤1050000:=h.1
  have b:d.f1.size≤1050000:=h.2.1
  have e1:(⟨#[100,97,103,32]⟩:ByteArray).size=4:=rfl
  have e2:(⟨#[10,99,114,111,110,32]⟩:ByteArray).size=6:=rfl
  have e3:(⟨#[10,102,114,111,109,32]⟩:ByteArray).size=6:=rfl
  have e4:(⟨#[10,116,111,32]⟩:ByteArray).size=4:=rfl
  have e5:(⟨#[10]⟩:ByteArray).size=1:=rfl
  have e6:(⟨#[99,97,116,99,104,117,112,10]⟩:ByteArray).size=8:=rfl
  have e7:(⟨#[108,97,116,101,115,116,10]⟩:ByteArray).size=7:=rfl
  have t1:tx (⟨#[100,97,103,32]⟩:ByteArray)=[100,97,103,32]:=rfl
  have t2:tx (⟨#[10,99,114,111,110,32]⟩:ByteArray)=[10,99,114,111,110,32]:=rfl
  have t3:tx (⟨#[10,102,114,111,109,32]⟩:ByteArray)=[10,102,114,111,109,32]:=rfl
  have t4:tx (⟨#[10,116,111,32]⟩:ByteArray)=[10,116,111,32]:=rfl
  have t5:tx (⟨#[10]⟩:ByteArray)=[10]:=rfl
  have t6:tx (⟨#[99,97,116,99,104,117,112,10]⟩:ByteArray)=[99,97,116,99,104,117,112,10]:=rfl
  have t7:tx (⟨#[108,97,116,101,115,116,10]⟩:ByteArray)=[108,97,116,101,115,116,10]:=rfl
  have fs:∀ (z:Bool) (u:ByteArray),u.size≤3000000→tx u=lL d→(b8 d.f5 0 z u).bind (fun y=>match y with
     | .x0 w0_4=>(some (w0_4,true)))=some (ofTx (lL d++iC d.f5),true):=fun z u hu hx=>by
   obtain ⟨w,w1,w2⟩:=A6 d.f5 0 z u fit (by omega)
   rw [w1,Option.bind_some]
   simp only
   rw [show w=ofTx (lL d++iC d.f5) from lb (by rw [w2,hx];rfl)]
  have fi:∀ (u:ByteArray),u.size≤3000000→tx u=lL d→(dE d.f5 0 u).bind (fun y=>match y with
     | .x0 w0_4=>(some (w0_4,true)))=some (ofTx (lL d++iC d.f5),true):=fun u hu hx=>by
   obtain ⟨w,w1,w2⟩:=A5 d.f5 0 u fit (by omega)
   rw [w1,Option.bind_some]
   simp only
   rw [show w=ofTx (lL d++iC d.f5) from lb (by rw [w2,hx];rfl)]
  unfold lL at fs fi
  refine ⟨?_,?_⟩
  ·split<;>rename_i hb<;>rw [hb] at fs <;>
   ·simp only [ed _ hb,if_pos h,q,cond_true,ByteArray.size_append,e1,e2,e3,e4,e5,e6,e7,ak]
    repeat rw [if_pos (by omega)]
    refine (fs _ _ ?_ ?_).trans ?_
    ·simp only [ByteArray.size_append,e1,e2,e3,e4,e5,e6,e7];omega
    ·simp [fF,t1,t2,t3,t4,t5,t6,t7]
    ·unfold lL;rw [hb]
  ·split<;>rename_i hb<;>rw [hb] at fi <;>
   ·simp only [ed _ hb,if_pos h,q,cond_true,ByteArray.size_append,e1,e2,e3,e4,e5,e6,e7,ak]
    repeat rw [if_pos (by omega)]
    refine (fi _ ?_ ?_).trans ?_
    ·simp only [ByteArray.size_append,e1,e2,e3,e4,e5,e6,e7];omega
    ·simp [fF,t1,t2,t3,t4,t5,t6,t7]
    ·unfold lL;rw [hb]
theorem lJ {q0:Kd} (x0:GDag) (h:an.sm x0):Does E 13 [.agg (GDag.t .far q0 x0)] [(false,[tS ((aI x0).1)]),(false,[tB ((aI x0).2)])]:=by
 exact Av x0 _ (wo x0 h).1
theorem lI {q0:Kd} (x0:GDag) (h:an.sm x0):Does E 14 [.agg (GDag.t .far q0 x0)] [(false,[tS ((aI x0).1)]),(false,[tB ((aI x0).2)])]:=by
 exact Ab x0 _ (wo x0 h).2
end Go.Proofs.YtjfbofdmjihglaaGreatDoor.Am
namespace Go.Proofs.YtjfbofdmjihglaaGreatDoor.Am
open Go Go.Proofs Classical
set_option maxRecDepth 100000
set_option linter.unusedVariables false
set_option linter.unusedSimpArgs false
noncomputable def iB (x0:LDag):Option (Bool) :=
  if Wf.wf x0 then cond (decide ((co x0 (1048576:Int))<(0:Int)))
   (some (true))
   (if an.sm x0 then if an.sm (ah x0) then cond (!(((aI (ah x0)).1).toList==((aI (ah x0)).1).toList))
    (some (false))
    (cond (!(((aI (ah x0)).2)==((aI (ah x0)).2)))
     (some (false))
     (if (ah x0)=(ah x0) then cond (yes (ah x0) (ah x0))
      (some (true))
      (some (false)) else none)) else none else none) else none
theorem ri {q0:Kd} (x0:LDag):Ans (iB x0) (fun r=>Does E 4 [.agg (LDag.t .far q0 x0)] [(false,[tB r])]):=by
 unfold iB
 refine Ig (fun h0 => ?_)
 apply Ie<;>intro h1
 ·exact Ib (DP Tryz.f4 [.ret [(false,[tI (co x0 (1048576:Int))])],.b true] (AV (ψ:=fun k=>E.C k 8 [.agg (LDag.t .far q0 x0),.one (tI (1048576:Int))]=some [(false,[tI (co x0 (1048576:Int))])]) (l3 x0 (1048576:Int) h0)<|AC h1<|AN))
 ·refine Ig (fun h2 => ?_)
  refine Ig (fun h3 => ?_)
  apply Ie<;>intro h4
  ·exact Ib (DP Tryz.f4 [.ret [(false,[tI (co x0 (1048576:Int))])],.b false,.ret [(true,GDag.t .own .own (ah x0))],.ret [(false,[tS ((aI (ah x0)).1)]),(false,[tB ((aI (ah x0)).2)])],.ret [(true,GDag.t .own .own (ah x0))],.ret [(false,[tS ((aI (ah x0)).1)]),(false,[tB ((aI (ah x0)).2)])],.b true] (AV (ψ:=fun k=>E.C k 8 [.agg (LDag.t .far q0 x0),.one (tI (1048576:Int))]=some [(false,[tI (co x0 (1048576:Int))])]) (l3 x0 (1048576:Int) h0)<|AC h1<|AV (ψ:=fun k=>E.C k 10 [.agg (LDag.t .far q0 x0)]=some [(true,GDag.t .own .own (ah x0))]) (eJ x0 h2)<|AV (ψ:=fun k=>E.C k 13 [.agg (GDag.t .far .own (ah x0))]=some [(false,[tS ((aI (ah x0)).1)]),(false,[tB ((aI (ah x0)).2)])]) (lJ (ah x0) h3)<|AV (ψ:=fun k=>E.C k 10 [.agg (LDag.t .far q0 x0)]=some [(true,GDag.t .own .own (ah x0))]) (eJ x0 h2)<|AV (ψ:=fun k=>E.C k 14 [.agg (GDag.t .far .own (ah x0))]=some [(false,[tS ((aI (ah x0)).1)]),(false,[tB ((aI (ah x0)).2)])]) (lI (ah x0) h3)<|AC h4<|AN))
  ·apply Ie<;>intro h5
   ·exact Ib (DP Tryz.f4 [.ret [(false,[tI (co x0 (1048576:Int))])],.b false,.ret [(true,GDag.t .own .own (ah x0))],.ret [(false,[tS ((aI (ah x0)).1)]),(false,[tB ((aI (ah x0)).2)])],.ret [(true,GDag.t .own .own (ah x0))],.ret [(false,[tS ((aI (ah x0)).1)]),(false,[tB ((aI (ah x0)).2)])],.b false,.b true] (AV (ψ:=fun k=>E.C k 8 [.agg (LDag.t .far q0 x0),.one (tI (1048576:Int))]=some [(false,[tI (co x0 (1048576:Int))])]) (l3 x0 (1048576:Int) h0)<|AC h1<|AV (ψ:=fun k=>E.C k 10 [.agg (LDag.t .far q0 x0)]=some [(true,GDag.t .own .own (ah x0))]) (eJ x0 h2)<|AV (ψ:=fun k=>E.C k 13 [.agg (GDag.t .far .own (ah x0))]=some [(false,[tS ((aI (ah x0)).1)]),(false,[tB ((aI (ah x0)).2)])]) (lJ (ah x0) h3)<|AV (ψ:=fun k=>E.C k 10 [.agg (LDag.t .far q0 x0)]=some [(true,GDag.t .own .own (ah x0))]) (eJ x0 h2)<|AV (ψ:=fun k=>E.C k 14 [.agg (GDag.t .far .own (ah x0))]=some [(false,[tS ((aI (ah x0)).1)]),(false,[tB ((aI (ah x0)).2)])]) (lI (ah x0) h3)<|AC h4<|AC h5<|AN))
   ·refine Ig (fun h6 => ?_)
    apply Ie<;>intro h7
    ·exact Ib (DP Tryz.f4 [.ret [(false,[tI (co x0 (1048576:Int))])],.b false,.ret [(true,GDag.t .own .own (ah x0))],.ret [(false,[tS ((aI (ah x0)).1)]),(false,[tB ((aI (ah x0)).2)])],.ret [(true,GDag.t .own .own (ah x0))],.ret [(false,[tS ((aI (ah x0)).1)]),(false,[tB ((aI (ah x0)).2)])],.b false,.b false,.ret [(true,GDag.t .own .own (ah x0))],rT] (AV (ψ:=fun k=>E.C k 8 [.agg (LDag.t .far q0 x0),.one (tI (1048576:Int))]=some [(false,[tI (co x0 (1048576:Int))])]) (l3 x0 (1048576:Int) h0)<|AC h1<|AV (ψ:=fun k=>E.C k 10 [.agg (LDag.t .far q0 x0)]=some [(true,GDag.t .own .own (ah x0))]) (eJ x0 h2)<|AV (ψ:=fun k=>E.C k 13 [.agg (GDag.t .far .own (ah x0))]=some [(false,[tS ((aI (ah x0)).1)]),(false,[tB ((aI (ah x0)).2)])]) (lJ (ah x0) h3)<|AV (ψ:=fun k=>E.C k 10 [.agg (LDag.t .far q0 x0)]=some [(true,GDag.t .own .own (ah x0))]) (eJ x0 h2)<|AV (ψ:=fun k=>E.C k 14 [.agg (GDag.t .far .own (ah x0))]=some [(false,[tS ((aI (ah x0)).1)]),(false,[tB ((aI (ah x0)).2)])]) (lI (ah x0) h3)<|AC h4<|AC h5<|AV (ψ:=fun k=>E.C k 10 [.agg (LDag.t .far q0 x0)]=some [(true,GDag.t .own .own (ah x0))]) (eJ x0 h2)<|AV (ψ:=fun k=>E.C k 12 [.agg (GDag.t .far .own (ah x0)),.agg (GDag.t .far .own (ah x0))]=some [(false,[tB true])]) (Ih (vF (ah x0) (ah x0) h6 h3) (by rw [h7]))<|AN))
    ·exact Ib (DP Tryz.f4 [.ret [(false,[tI (co x0 (1048576:Int))])],.b false,.ret [(true,GDag.t .own .own (ah x0))],.ret [(false,[tS ((aI (ah x0)).1)]),(false,[tB ((aI (ah x0)).2)])],.ret [(true,GDag.t .own .own (ah x0))],.ret [(false,[tS ((aI (ah x0)).1)]),(false,[tB ((aI (ah x0)).2)])],.b false,.b false,.ret [(true,GDag.t .own .own (ah x0))],rF] (AV (ψ:=fun k=>E.C k 8 [.agg (LDag.t .far q0 x0),.one (tI (1048576:Int))]=some [(false,[tI (co x0 (1048576:Int))])]) (l3 x0 (1048576:Int) h0)<|AC h1<|AV (ψ:=fun k=>E.C k 10 [.agg (LDag.t .far q0 x0)]=some [(true,GDag.t .own .own (ah x0))]) (eJ x0 h2)<|AV (ψ:=fun k=>E.C k 13 [.agg (GDag.t .far .own (ah x0))]=some [(false,[tS ((aI (ah x0)).1)]),(false,[tB ((aI (ah x0)).2)])]) (lJ (ah x0) h3)<|AV (ψ:=fun k=>E.C k 10 [.agg (LDag.t .far q0 x0)]=some [(true,GDag.t .own .own (ah x0))]) (eJ x0 h2)<|AV (ψ:=fun k=>E.C k 14 [.agg (GDag.t .far .own (ah x0))]=some [(false,[tS ((aI (ah x0)).1)]),(false,[tB ((aI (ah x0)).2)])]) (lI (ah x0) h3)<|AC h4<|AC h5<|AV (ψ:=fun k=>E.C k 10 [.agg (LDag.t .far q0 x0)]=some [(true,GDag.t .own .own (ah x0))]) (eJ x0 h2)<|AV (ψ:=fun k=>E.C k 12 [.agg (GDag.t .far .own (ah x0)),.agg (GDag.t .far .own (ah x0))]=some [(false,[tB false])]) (Ih (vF (ah x0) (ah x0) h6 h3) (by rw [h7]))<|AN))
theorem wu {q0:Kd} (x0:LDag) (h:Wf.wf x0):Does E 4 [.agg (LDag.t .far q0 x0)] [(false,[tB true])]:=by
 have hs:=B8 x0 1048576 h (by omega) (by omega)
 exact ri x0 _ (by
  unfold iB
  refine FB h (FX fun q => ?_)
  have hs:=(hs q).2
  have ht:=Cp hs
  simp [hs,ht,yes])
end Go.Proofs.YtjfbofdmjihglaaGreatDoor.Am
namespace Go.Proofs.YtjfbofdmjihglaaGreatDoor.fnExactDagText
open Go.ChangeShapes Go.WideShapes Go.ChangeAt Go.RowKit Go.Proofs.YtjfbofdmjihglaaGreatDoor.Am
open Go.ChangeMaps (open_string shut_string)
set_option linter.unusedVariables false
set_option linter.unusedSimpArgs false
theorem own:ownKnob Tryz.prog.godebug=none:=by kernel_rfl
theorem laid:laidOutB Tryz.prog=true:=by kernel_rfl
theorem tp {α:Type} {enc:α→List (T Unit)} {B:α→Prop}:∀ (rows:List (List DT)),(∀ r∈rows,∃ x,erL r=enc x∧B x)→∃ l:List α,rows.map erL=l.map enc∧l.length=rows.length∧∀ y∈l,B y
 | [],_=>⟨[],rfl,rfl,fun y h=>by cases h⟩
 | r::rs,h=>by
  obtain ⟨x,h1,h2⟩:=h r (by simp)
  obtain ⟨l,g1,g2,g3⟩:=tp rs fun q hq=>h q (by simp [hq])
  refine ⟨x::l,by simp only [List.map_cons,h1,g1],by simp [g2],fun y hy => ?_⟩
  rcases List.mem_cons.1 hy with rfl | hy
  ·exact h2
  ·exact g3 y hy
def tv:Ty:=(.struct (.cons .str (.cons .str (.cons (.int .i64) (.cons .bool (.cons (.slice .str) .nil))))))
theorem Cc {ts:List DT} (h:Shape tv ts):∃ x:GTask,erL ts=GTask.t .far x∧Wf.wf x:=by
 simp only [tv,Shape,ShapeF] at h
 obtain ⟨xs0,ys0,rfl,s0,xs1,ys1,rfl,s1,xs2,ys2,rfl,s2,xs3,ys3,rfl,s3,xs4,ys4,rfl,s4,rfl⟩:=h
 obtain ⟨v0,rfl,k0⟩:=s0
 obtain ⟨v1,rfl,k1⟩:=s1
 obtain ⟨v2,rfl,k2⟩:=s2
 obtain ⟨v3,rfl⟩:=s3
 obtain ⟨d4,r4,rfl,k4,a4⟩:=s4
 obtain ⟨v4,e4,b4,c4⟩:=tp (enc:=etS) (B:=Wf.wf) r4 (fun r hr=>(by obtain ⟨s,rfl,hs⟩:=a4 r hr;exact ⟨s,rfl,hs⟩))
 refine ⟨⟨v0,v1,v2,v3,v4⟩,?_,⟨k0,k1,⟨by rw [b4];exact k4,c4⟩⟩⟩
 simp only [List.map_append,List.map_cons,List.map_nil,erL,aq,dv,e4]
 rfl
def rW:Ty:=(.struct (.cons .str (.cons .str (.cons (.int .i64) (.cons (.int .i64) (.cons .bool (.cons (.slice (.struct (.cons .str (.cons .str (.cons (.int .i64) (.cons .bool (.cons (.slice .str) .nil))))))) .nil)))))))
theorem Dm {ts:List DT} (h:Shape rW ts):∃ x:LDag,erL ts=LDag.t .far .far x∧Wf.wf x:=by
 simp only [rW,Shape,ShapeF] at h
 obtain ⟨xs0,ys0,rfl,s0,xs1,ys1,rfl,s1,xs2,ys2,rfl,s2,xs3,ys3,rfl,s3,xs4,ys4,rfl,s4,xs5,ys5,rfl,s5,rfl⟩:=h
 obtain ⟨v0,rfl,k0⟩:=s0
 obtain ⟨v1,rfl,k1⟩:=s1
 obtain ⟨v2,rfl,k2⟩:=s2
 obtain ⟨v3,rfl,k3⟩:=s3
 obtain ⟨v4,rfl⟩:=s4
 obtain ⟨d5,r5,rfl,k5,a5⟩:=s5
 obtain ⟨v5,e5,b5,c5⟩:=tp (enc:=(GTask.t .far)) (B:=Wf.wf) r5 (fun r hr=>Cc (by simp only [tv,Shape,ShapeF];exact a5 r hr))
 refine ⟨⟨v0,v1,v2,v3,v4,v5⟩,?_,⟨k0,k1,⟨by rw [b5];exact k5,c5⟩⟩⟩
 simp only [List.map_append,List.map_cons,List.map_nil,erL,aq,dv,e5]
 rfl
theorem Bp {H:Type} {enc:TypeId×Value→H} {a:Assume} {C:Checked} {os:Os} {f:FuncId} {fn:Func} {s:ChangeSpec} {conds:List PathCond} {apart fresh handsOn again:Bool} {X:World→Array Value→Prop}
  (hX:∀ (w w':World) (args:Array Value),w.heap=w'.heap→X w args→X w' args)
  (own:ownKnob C.prog.godebug=none) (started:os.Started) (noInit:C.prog.inits.idxOf? f=none) (hfn:C.prog.funcs[f]?=some fn)
  (witness:∃ (w:World) (tape:Tape) (i:Input),w.os=os∧(w.forCall tape i).Shaped C.prog∧i.vars=[]∧Input.okWide C.prog (w.forCall tape i) .any w.heap.size f i ∧
   ((s.pre enc C.prog fn conds apart (w.forCall tape i).memory i.args∧X (w.forCall tape i).memory i.args)∧sizedMet enc C.prog fn (OpenSpec.ofChange s) apart (w.forCall tape i).memory i.args)∧a.holds C.prog (lone (Frame.enter C.prog f i.args .normal) [] (w.forCall tape i)))
  (contract:∀ (W:World) (base:Nat) (args:Array Value) (ds gs:List (DataW H)) (before:List MemPlace),
   (∀ (j:Nat) t v,fn.params[j]?=some t→args[j]?=some v→Value.okWide C.prog W .any base t v) →
   DataW.Whole enc C.prog fn.params.toList s.vars apart W args.toList ds gs before →
   X W args→W.ShapedOpen C.prog →
   Calls C.prog f args W fun e W'=>∃ v,e = .returned v∧s.post enc C.prog fn apart fresh handsOn again W args v W') :
  ReturnsInHanded a C os f .any (fun w args=>(s.pre enc C.prog fn conds apart w args∧X w args)∧sizedMet enc C.prog fn (OpenSpec.ofChange s) apart w args) (s.post enc C.prog fn apart fresh handsOn again):=by
 refine returnsInHanded_of_calls own started noInit witness ?_
 intro w tape i _ hsh _ hok hpre _
 obtain ⟨_,_,_,fn',hfn',_,_,_,_,hval⟩:=hok
 have e:fn'=fn:=Option.some.inj (hfn'.symm.trans hfn)
 subst e
 obtain ⟨⟨⟨ds,gs,before,hw,hc⟩,hx⟩,hz⟩:=hpre
 have hw':=DataW.Whole.of_heap (w':=w.forCall tape i) (by rfl) hw
 refine (contract (w.forCall tape i) w.heap.size i.args ds gs before hval hw' (hX _ _ _ (by rfl) hx) hsh).mono fun e W' ⟨v,he,hp⟩ => ?_
 subst he
 exact ChangeSpec.post_blind hp
theorem ES {W:World} (hS:W.ShapedOpen Tryz.prog) (hL:laidMetH Tryz.prog Rows.fnExactDagTextRow.laid W):iO.ok W []:=by
 rw [MakeChecks.laidMetH_plain _ _ _ (by kernel_rfl)] at hL
 refine ⟨?_,fun b h=>(by cases h),?_,?_⟩
 ·obtain ⟨x,hx⟩:=Option.isSome_iff_exists.1 (show (((begin Tryz.prog (fun _ _=>0) default).world.heap[5]?).bind Obj.row?).isSome=true by kernel_rfl)
  obtain ⟨cs,hh,_⟩:=hS.1 5 x.1 x.2 (of_decide_eq_true (by kernel_rfl)) hx
  have hn:iO.n=6:=by show Tryz.prog.globals.size=6;kernel_rfl
  rw [hn]
  rcases Nat.lt_or_ge 5 W.heap.size with g | g
  ·exact g
  ·rw [Array.getElem?_eq_none g] at hh;cases hh
 ·exact cell_of_shapedOpen_int (t:=3) (zero := #[.int .i64 0]) hS (of_decide_eq_true (by kernel_rfl)) (by kernel_rfl) rfl (by kernel_rfl) (by kernel_rfl) Tryz.underlying3
 ·have e:Rows.laid_internal_strconv_uint64pow10 (H:=Unit)=Lib.tabData .u64 Lib.pow10Tab:=by kernel_rfl
  refine Lib.tabIs_of_head (rest:=Rows.fnExactDagTextRow.laid.drop 3) (g:=0) (t:=151) (e:=117) (n:=20) (by kernel_rfl) (by kernel_rfl) Tryz.underlying151 (by kernel_rfl) (by kernel_rfl) (by kernel_rfl) ?_
  rw [← e]
  exact hL.tail.tail
set_option maxRecDepth 100000 in
theorem FF (os:Os) (started:os.Started) (H:Type) (enc:TypeId×Value→H) :
  ReturnsInHanded {} Tryz.checked os 4 .any (fun w args=>(Rows.fnExactDagTextSpec.pre enc Tryz.prog Tryz.f4 Rows.fnExactDagTextRow.domain false w args∧laidMetH Tryz.prog Rows.fnExactDagTextRow.laid w)∧sizedMet enc Tryz.prog Tryz.f4 (OpenSpec.ofChange Rows.fnExactDagTextSpec) false w args)
   (Rows.fnExactDagTextSpec.post enc Tryz.prog Tryz.f4 false true false false):=by
 refine Bp (C:=Tryz.checked) (X:=fun w _=>laidMetH Tryz.prog Rows.fnExactDagTextRow.laid w) (fun _ _ _ hh h=>h.of_heap hh) own started (by kernel_rfl) Tryz.func4
  (ChangeSpec.witness_shaped (enc:=enc) (C:=Tryz.checked) (os:=os) (X:=fun w _=>laidMetH Tryz.prog Rows.fnExactDagTextRow.laid w) false (World.laidAll Tryz.prog os Rows.fnExactDagTextRow.laid) #[.agg #[.string ByteArray.empty,.string ByteArray.empty,.int .i64 0,.int .i64 0,.bool false,.slice none 0 0]] 8 (World.laidAll_os _ _ _)
   (World.shaped_of_ZipB (by kernel_rfl) (by kernel_rfl)) (by kernel_rfl) (by kernel_rfl) (by kernel_rfl)
   (by rw [MakeChecks.laidMetH_plain _ _ _ (by kernel_rfl)];exact laidMet_laidAll _ (by kernel_rfl) (by kernel_rfl))) ?_
 intro W base args ds gs before hval0 hW hL hS
 have hB:=ES hS hL
 have hval:∀ (j:Nat) t v,Tryz.f4.params[j]?=some t→args[j]?=some v→Value.okWide Tryz.prog W .any base t v:=hval0
 have hW':=hW
 obtain ⟨p,q,hA0,hV,rfl,hfz,hnd⟩:=hW
 have hA:DataW.TrodAll enc Tryz.prog W 0 (fun _=>true) true Tryz.f4.params.toList args.toList ds p:=hA0
 rw [Tryz.params4] at hA hval
 have hlt:=hA.lt
 obtain ⟨v0,vs0,d0,ds0,p0,q0,hargs,rfl,rfl,h0,r0⟩:=trodAll_cons hA
 obtain ⟨rfl,rfl,rfl⟩:=trodAll_nil r0
 obtain rfl:args = #[v0]:=by cases args;simp_all
 obtain ⟨rfl,rfl⟩:=trodVars_none hV
 have hok0:=hval 0 24 v0 rfl rfl
 unfold Value.okWide at hok0
 rw [Tryz.underlying24] at hok0
 obtain ⟨cs0,rfl,_,_⟩:=hok0
 have h0k:=h0
 obtain ⟨n0,h0⟩:=h0
 obtain ⟨ts0,R0,S0,L0⟩:=Ty.open rW n0 24 _ _ (by kernel_rfl) h0
 obtain ⟨x0,e0,k0⟩:=Dm S0
 clear hA0 hval0
 refine (F5 (wu x0 k0) hB (ad:=[.agg ts0]) (by simp only [List.map_cons,List.map_nil,Sl.er,dv,aq];rw [e0]) (ArgsIn.cons (AOk.agg R0 (Shape.noLent rW _ S0)) (ArgsIn.nil W))).mono fun e W' ⟨he,bel⟩ => ?_
 subst he
 exact ⟨_,rfl,_,_,_,[],_,[],hW',trodAll_mk1 (shut_bool Tryz.underlying4 _),(trodAll_cons_mk (Below.trod laid (by kernel_rfl) (of_decide_eq_true (by kernel_rfl)) h0k bel (fun x hx=>hlt x (by simp [hx]))) trodAll_mk0),rfl,bel.frame _,fun h=>by cases h⟩
theorem F4:Rows.fnExactDagTextRow.holds Tryz.pinned (OpenSpec.ofChange Rows.fnExactDagTextSpec) :=
 OpenClaim.holds_of_wide 4 Tryz.f4 rfl rfl rfl rfl rfl rfl rfl ⟨rfl,rfl,rfl,rfl,rfl⟩ rfl rfl rfl rfl rfl (by kernel_rfl) Tryz.func4 (by kernel_rfl)
  (of_decide_eq_true (by kernel_rfl)) (by unfold Func.isWrapper;first | (rw [if_pos (by decide +kernel)];kernel_rfl) | (rw [if_neg (by decide +kernel)];exact ⟨rfl,rfl⟩))
  (fun os started H enc _=>FF os started H enc)
theorem proved:Rows.FnExactDagTextCardSaid :=
 Claim7.holds_tied_plain_at .later [] [.data, .data, .data, .data, .pinned] true (true, "5d2d9a259d95ac017517471e890a3483be5bccce4816c56c5b0c681b7087e1c6") false F4 (fun _ h => by cases h) (by kernel_rfl) (fun _ h => by cases h) fnExactDagText_row_tie rfl ⟨rfl, rfl⟩ (by kernel_rfl) rfl
  (fun f fn hf hfn=>by
   obtain rfl : f = 4 := Option.some.inj ((show Tryz.prog.funcNamed "loop.example/g00188/laws.FnExactDagText" = some 4 by kernel_rfl).symm.trans hf) |>.symm
   obtain rfl:fn=Tryz.f4:=(Option.some.inj (Tryz.func4.symm.trans hfn)).symm
   exact ⟨by kernel_rfl,fun j t ht=>by
    rw [Tryz.params4] at ht
    have hm:t∈[24]:=by simpa using Array.mem_of_getElem? ht
    have hall:([24].all fun u => !Tryz.prog.wantsStandIn u)=true:=by kernel_rfl
    exact (show Tryz.prog.wantsStandIn t=false by simpa using List.all_eq_true.1 hall t hm)⟩)
  (by kernel_rfl)
end Go.Proofs.YtjfbofdmjihglaaGreatDoor.fnExactDagText
namespace Go.Proofs.YtjfbofdmjihglaaGreatDoor
theorem fnExactDagText_holds:Rows.FnExactDagTextCardSaid:=fnExactDagText.proved
end Go.Proofs.YtjfbofdmjihglaaGreatDoor
