/- 'laws.FnExactRunOk' returns true for every plan and run, and leaves them as they were. Conditions: none. -/
import Derived.Test.YtgaiiephdjllkaaGreatDoorUps
import Derived.Test.YtgaiiephdjllkaaGreatDoorShells
import Derived.Test.YtgaiiephdjllkaaGreatDoorRows
import Derived.Test.YtgaiiephdjllkaaGreatDoorCards
import Derived.Test.YtgaiiephdjllkaaGreatDoorTie
import Derived.WalkKit
import Derived.ProofKit
import Derived.OpenShut
import Derived.ShutString
import Derived.ChangeOld
import Derived.Below
import Derived.SizedLaws
import Derived.Lay
import Derived.LaidMore
import Derived.SevenTiedAt
import Derived.Stop.Joined
import Derived.Stop.LaidErr
import Derived.Lib.LaidTab
import Derived.Shelf.Vars
import Derived.HandedShaped
namespace Go.Proofs.YtgaiiephdjllkaaGreatDoor.Am
open Go Go.Proofs Classical
set_option maxRecDepth 100000
set_option linter.unusedVariables false
set_option linter.unusedSimpArgs false
noncomputable def kM (x0:LDag) (x1:LRun):Option (Bool) :=
  if Wf.wf x0 then cond (decide ((aB x0 (1048576:Int))<(0:Int)))
   (some (true))
   (if Wf.wf x1 then cond (decide ((cu x1 (aB x0 (1048576:Int)))<(0:Int)))
    (some (true))
    (if ak.sm x0 then if ak.sm x1 then if ak.sm (ae x0) then cond (!((cT (ae x0) (am x1))==(cT (ae x0) (am x1))))
     (some (false))
     (if (ae x0)=(ae x0) then cond (yes (ae x0) (ae x0))
      (if (am x1)=(am x1) then if ak.sm (am x1) then cond (yes (am x1) (am x1))
       (some (true))
       (some (false)) else none else none)
      (some (false)) else none) else none else none else none) else none) else none
theorem vw {q0:Kd} (x0:LDag) (x1:LRun):Ans (kM x0 x1) (fun r=>Does E 4 [.agg (LDag.t .far q0 x0),.agg (LRun.t .far x1)] [(false,[tB r])]):=by
 unfold kM
 refine KG (fun h0 => ?_)
 apply KE<;>intro h1
 ·exact KB (DP Tryz.f4 [.ret [(false,[tI (aB x0 (1048576:Int))])],.b true] (AV (ψ:=fun k=>E.C k 6 [.agg (LDag.t .far q0 x0),.one (tI (1048576:Int))]=some [(false,[tI (aB x0 (1048576:Int))])]) (ek x0 (1048576:Int) h0)<|AC h1<|AN))
 ·refine KG (fun h2 => ?_)
  apply KE<;>intro h3
  ·exact KB (DP Tryz.f4 [.ret [(false,[tI (aB x0 (1048576:Int))])],.b false,.ret [(false,[tI (cu x1 (aB x0 (1048576:Int)))])],.b true] (AV (ψ:=fun k=>E.C k 6 [.agg (LDag.t .far q0 x0),.one (tI (1048576:Int))]=some [(false,[tI (aB x0 (1048576:Int))])]) (ek x0 (1048576:Int) h0)<|AC h1<|AD (fj x1 (aB x0 (1048576:Int)) h2)<|AC h3<|AN))
  ·refine KG (fun h4 => ?_)
   refine KG (fun h5 => ?_)
   refine KG (fun h6 => ?_)
   apply KE<;>intro h7
   ·exact KB (DP Tryz.f4 [.ret [(false,[tI (aB x0 (1048576:Int))])],.b false,.ret [(false,[tI (cu x1 (aB x0 (1048576:Int)))])],.b false,.ret [(true,GDag.t .own .own (ae x0))],.ret [(true,GRun.t .own (am x1))],.ret [(false,[tB (cT (ae x0) (am x1))])],.ret [(true,GDag.t .own .own (ae x0))],.ret [(true,GRun.t .own (am x1))],.ret [(false,[tB (cT (ae x0) (am x1))])],.b true] (AV (ψ:=fun k=>E.C k 6 [.agg (LDag.t .far q0 x0),.one (tI (1048576:Int))]=some [(false,[tI (aB x0 (1048576:Int))])]) (ek x0 (1048576:Int) h0)<|AC h1<|AD (fj x1 (aB x0 (1048576:Int)) h2)<|AC h3<|AV (ψ:=fun k=>E.C k 8 [.agg (LDag.t .far q0 x0)]=some [(true,GDag.t .own .own (ae x0))]) (bJ x0 h4)<|AD (bU x1 h5)<|AV (ψ:=fun k=>E.C k 17 [.agg (GDag.t .far .own (ae x0)),.agg (GRun.t .far (am x1))]=some [(false,[tB (cT (ae x0) (am x1))])]) (kZ (ae x0) (am x1) h6)<|AV (ψ:=fun k=>E.C k 8 [.agg (LDag.t .far q0 x0)]=some [(true,GDag.t .own .own (ae x0))]) (bJ x0 h4)<|AD (bU x1 h5)<|AV (ψ:=fun k=>E.C k 19 [.agg (GDag.t .far .own (ae x0)),.agg (GRun.t .far (am x1))]=some [(false,[tB (cT (ae x0) (am x1))])]) (kX (ae x0) (am x1) h6)<|AC h7<|AN))
   ·refine KG (fun h8 => ?_)
    apply KE<;>intro h9
    ·refine KG (fun h10 => ?_)
     refine KG (fun h11 => ?_)
     apply KE<;>intro h12
     ·exact KB (DP Tryz.f4 [.ret [(false,[tI (aB x0 (1048576:Int))])],.b false,.ret [(false,[tI (cu x1 (aB x0 (1048576:Int)))])],.b false,.ret [(true,GDag.t .own .own (ae x0))],.ret [(true,GRun.t .own (am x1))],.ret [(false,[tB (cT (ae x0) (am x1))])],.ret [(true,GDag.t .own .own (ae x0))],.ret [(true,GRun.t .own (am x1))],.ret [(false,[tB (cT (ae x0) (am x1))])],.b false,.ret [(true,GDag.t .own .own (ae x0))],rT,.ret [(true,GRun.t .own (am x1))],rT] (AV (ψ:=fun k=>E.C k 6 [.agg (LDag.t .far q0 x0),.one (tI (1048576:Int))]=some [(false,[tI (aB x0 (1048576:Int))])]) (ek x0 (1048576:Int) h0)<|AC h1<|AD (fj x1 (aB x0 (1048576:Int)) h2)<|AC h3<|AV (ψ:=fun k=>E.C k 8 [.agg (LDag.t .far q0 x0)]=some [(true,GDag.t .own .own (ae x0))]) (bJ x0 h4)<|AD (bU x1 h5)<|AV (ψ:=fun k=>E.C k 17 [.agg (GDag.t .far .own (ae x0)),.agg (GRun.t .far (am x1))]=some [(false,[tB (cT (ae x0) (am x1))])]) (kZ (ae x0) (am x1) h6)<|AV (ψ:=fun k=>E.C k 8 [.agg (LDag.t .far q0 x0)]=some [(true,GDag.t .own .own (ae x0))]) (bJ x0 h4)<|AD (bU x1 h5)<|AV (ψ:=fun k=>E.C k 19 [.agg (GDag.t .far .own (ae x0)),.agg (GRun.t .far (am x1))]=some [(false,[tB (cT (ae x0) (am x1))])]) (kX (ae x0) (am x1) h6)<|AC h7<|AV (ψ:=fun k=>E.C k 8 [.agg (LDag.t .far q0 x0)]=some [(true,GDag.t .own .own (ae x0))]) (bJ x0 h4)<|AV (ψ:=fun k=>E.C k 12 [.agg (GDag.t .far .own (ae x0)),.agg (GDag.t .far .own (ae x0))]=some [(false,[tB true])]) (KH (kY (ae x0) (ae x0) h8 h6) (by rw [h9]))<|AD (bU x1 h5)<|AD (KJ (oZ (am x1) (am x1) h10 h11) h12)<|AN))
     ·exact KB (DP Tryz.f4 [.ret [(false,[tI (aB x0 (1048576:Int))])],.b false,.ret [(false,[tI (cu x1 (aB x0 (1048576:Int)))])],.b false,.ret [(true,GDag.t .own .own (ae x0))],.ret [(true,GRun.t .own (am x1))],.ret [(false,[tB (cT (ae x0) (am x1))])],.ret [(true,GDag.t .own .own (ae x0))],.ret [(true,GRun.t .own (am x1))],.ret [(false,[tB (cT (ae x0) (am x1))])],.b false,.ret [(true,GDag.t .own .own (ae x0))],rT,.ret [(true,GRun.t .own (am x1))],rF] (AV (ψ:=fun k=>E.C k 6 [.agg (LDag.t .far q0 x0),.one (tI (1048576:Int))]=some [(false,[tI (aB x0 (1048576:Int))])]) (ek x0 (1048576:Int) h0)<|AC h1<|AD (fj x1 (aB x0 (1048576:Int)) h2)<|AC h3<|AV (ψ:=fun k=>E.C k 8 [.agg (LDag.t .far q0 x0)]=some [(true,GDag.t .own .own (ae x0))]) (bJ x0 h4)<|AD (bU x1 h5)<|AV (ψ:=fun k=>E.C k 17 [.agg (GDag.t .far .own (ae x0)),.agg (GRun.t .far (am x1))]=some [(false,[tB (cT (ae x0) (am x1))])]) (kZ (ae x0) (am x1) h6)<|AV (ψ:=fun k=>E.C k 8 [.agg (LDag.t .far q0 x0)]=some [(true,GDag.t .own .own (ae x0))]) (bJ x0 h4)<|AD (bU x1 h5)<|AV (ψ:=fun k=>E.C k 19 [.agg (GDag.t .far .own (ae x0)),.agg (GRun.t .far (am x1))]=some [(false,[tB (cT (ae x0) (am x1))])]) (kX (ae x0) (am x1) h6)<|AC h7<|AV (ψ:=fun k=>E.C k 8 [.agg (LDag.t .far q0 x0)]=some [(true,GDag.t .own .own (ae x0))]) (bJ x0 h4)<|AV (ψ:=fun k=>E.C k 12 [.agg (GDag.t .far .own (ae x0)),.agg (GDag.t .far .own (ae x0))]=some [(false,[tB true])]) (KH (kY (ae x0) (ae x0) h8 h6) (by rw [h9]))<|AD (bU x1 h5)<|AD (KJ (oZ (am x1) (am x1) h10 h11) h12)<|AN))
    ·exact KB (DP Tryz.f4 [.ret [(false,[tI (aB x0 (1048576:Int))])],.b false,.ret [(false,[tI (cu x1 (aB x0 (1048576:Int)))])],.b false,.ret [(true,GDag.t .own .own (ae x0))],.ret [(true,GRun.t .own (am x1))],.ret [(false,[tB (cT (ae x0) (am x1))])],.ret [(true,GDag.t .own .own (ae x0))],.ret [(true,GRun.t .own (am x1))],.ret [(false,[tB (cT (ae x0) (am x1))])],.b false,.ret [(true,GDag.t .own .own (ae x0))],rF] (AV (ψ:=fun k=>E.C k 6 [.agg (LDag.t .far q0 x0),.one (tI (1048576:Int))]=some [(false,[tI (aB x0 (1048576:Int))])]) (ek x0 (1048576:Int) h0)<|AC h1<|AD (fj x1 (aB x0 (1048576:Int)) h2)<|AC h3<|AV (ψ:=fun k=>E.C k 8 [.agg (LDag.t .far q0 x0)]=some [(true,GDag.t .own .own (ae x0))]) (bJ x0 h4)<|AD (bU x1 h5)<|AV (ψ:=fun k=>E.C k 17 [.agg (GDag.t .far .own (ae x0)),.agg (GRun.t .far (am x1))]=some [(false,[tB (cT (ae x0) (am x1))])]) (kZ (ae x0) (am x1) h6)<|AV (ψ:=fun k=>E.C k 8 [.agg (LDag.t .far q0 x0)]=some [(true,GDag.t .own .own (ae x0))]) (bJ x0 h4)<|AD (bU x1 h5)<|AV (ψ:=fun k=>E.C k 19 [.agg (GDag.t .far .own (ae x0)),.agg (GRun.t .far (am x1))]=some [(false,[tB (cT (ae x0) (am x1))])]) (kX (ae x0) (am x1) h6)<|AC h7<|AV (ψ:=fun k=>E.C k 8 [.agg (LDag.t .far q0 x0)]=some [(true,GDag.t .own .own (ae x0))]) (bJ x0 h4)<|AV (ψ:=fun k=>E.C k 12 [.agg (GDag.t .far .own (ae x0)),.agg (GDag.t .far .own (ae x0))]=some [(false,[tB false])]) (KH (kY (ae x0) (ae x0) h8 h6) (by rw [h9]))<|AN))
theorem CD {q0:Kd} (x0:LDag) (x1:LRun) (h:Wf.wf x0) (g:Wf.wf x1):Does E 4 [.agg (LDag.t .far q0 x0),.agg (LRun.t .far x1)] [(false,[tB true])]:=by
 have hs:=wA x0 1048576 h (by omega) (by omega)
 exact vw x0 x1 _ (by
  unfold kM
  refine wz h (Ac fun q => ?_)
  have hz:=hs q
  have hr:=wB x1 (aB x0 1048576) g q hz.1
  refine wz g (Ac fun q2 => ?_)
  have ht:=wT hz.2
  have ht2:=wU (hr q2).2
  simp [hz.2,(hr q2).2,ht,ht2,yes])
end Go.Proofs.YtgaiiephdjllkaaGreatDoor.Am
namespace Go.Proofs.YtgaiiephdjllkaaGreatDoor.fnExactRunOk
open Go.ChangeShapes Go.WideShapes Go.ChangeAt Go.RowKit Go.Proofs.YtgaiiephdjllkaaGreatDoor.Am
open Go.ChangeMaps (open_string shut_string)
set_option linter.unusedVariables false
set_option linter.unusedSimpArgs false
theorem own:ownKnob Tryz.prog.godebug=none:=by kernel_rfl
theorem laid:laidOutB Tryz.prog=true:=by kernel_rfl
theorem il {α:Type} {enc:α→List (T Unit)} {B:α→Prop}:∀ (rows:List (List DT)),(∀ r∈rows,∃ x,erL r=enc x∧B x)→∃ l:List α,rows.map erL=l.map enc∧l.length=rows.length∧∀ y∈l,B y
 | [],_=>⟨[],rfl,rfl,fun y h=>by cases h⟩
 | r::rs,h=>by
  obtain ⟨x,h1,h2⟩:=h r (by simp)
  obtain ⟨l,g1,g2,g3⟩:=il rs fun q hq=>h q (by simp [hq])
  refine ⟨x::l,by simp only [List.map_cons,h1,g1],by simp [g2],fun y hy => ?_⟩
  rcases List.mem_cons.1 hy with rfl | hy
  ·exact h2
  ·exact g3 y hy
def kV:Ty:=(.struct (.cons .str (.cons .str (.cons (.int .i64) (.cons .bool (.cons (.slice .str) .nil))))))
theorem ru {ts:List DT} (h:Shape kV ts):∃ x:GTask,erL ts=GTask.t .far x∧Wf.wf x:=by
 simp only [kV,Shape,ShapeF] at h
 obtain ⟨xs0,ys0,rfl,s0,xs1,ys1,rfl,s1,xs2,ys2,rfl,s2,xs3,ys3,rfl,s3,xs4,ys4,rfl,s4,rfl⟩:=h
 obtain ⟨v0,rfl,k0⟩:=s0
 obtain ⟨v1,rfl,k1⟩:=s1
 obtain ⟨v2,rfl,k2⟩:=s2
 obtain ⟨v3,rfl⟩:=s3
 obtain ⟨d4,r4,rfl,k4,a4⟩:=s4
 obtain ⟨v4,e4,b4,c4⟩:=il (enc:=etS) (B:=Wf.wf) r4 (fun r hr=>(by obtain ⟨s,rfl,hs⟩:=a4 r hr;exact ⟨s,rfl,hs⟩))
 refine ⟨⟨v0,v1,v2,v3,v4⟩,?_,⟨k0,k1,⟨by rw [b4];exact k4,c4⟩⟩⟩
 simp only [List.map_append,List.map_cons,List.map_nil,erL,ay,cw,e4]
 rfl
def jV:Ty:=(.struct (.cons .str (.cons .str (.cons (.int .i64) (.cons (.int .i64) (.cons .bool (.cons (.slice (.struct (.cons .str (.cons .str (.cons (.int .i64) (.cons .bool (.cons (.slice .str) .nil))))))) .nil)))))))
theorem tN {ts:List DT} (h:Shape jV ts):∃ x:LDag,erL ts=LDag.t .far .far x∧Wf.wf x:=by
 simp only [jV,Shape,ShapeF] at h
 obtain ⟨xs0,ys0,rfl,s0,xs1,ys1,rfl,s1,xs2,ys2,rfl,s2,xs3,ys3,rfl,s3,xs4,ys4,rfl,s4,xs5,ys5,rfl,s5,rfl⟩:=h
 obtain ⟨v0,rfl,k0⟩:=s0
 obtain ⟨v1,rfl,k1⟩:=s1
 obtain ⟨v2,rfl,k2⟩:=s2
 obtain ⟨v3,rfl,k3⟩:=s3
 obtain ⟨v4,rfl⟩:=s4
 obtain ⟨d5,r5,rfl,k5,a5⟩:=s5
 obtain ⟨v5,e5,b5,c5⟩:=il (enc:=(GTask.t .far)) (B:=Wf.wf) r5 (fun r hr=>ru (by simp only [kV,Shape,ShapeF];exact a5 r hr))
 refine ⟨⟨v0,v1,v2,v3,v4,v5⟩,?_,⟨k0,k1,⟨by rw [b5];exact k5,c5⟩⟩⟩
 simp only [List.map_append,List.map_cons,List.map_nil,erL,ay,cw,e5]
 rfl
def kU:Ty:=(.struct (.cons (.int .i64) (.cons (.int .i64) .nil)))
theorem rt {ts:List DT} (h:Shape kU ts):∃ x:GSpan,erL ts=GSpan.t x∧Wf.wf x:=by
 simp only [kU,Shape,ShapeF] at h
 obtain ⟨xs0,ys0,rfl,s0,xs1,ys1,rfl,s1,rfl⟩:=h
 obtain ⟨v0,rfl,k0⟩:=s0
 obtain ⟨v1,rfl,k1⟩:=s1
 refine ⟨⟨v0,v1⟩,?_,trivial⟩
 simp only [List.map_append,List.map_cons,List.map_nil,erL,ay,cw]
 rfl
def jw:Ty:=(.struct (.cons (.int .i64) (.cons (.int .i64) (.cons (.int .i64) (.cons (.int .i64) .nil)))))
theorem pR {ts:List DT} (h:Shape jw ts):∃ x:GState,erL ts=GState.t x∧Wf.wf x:=by
 simp only [jw,Shape,ShapeF] at h
 obtain ⟨xs0,ys0,rfl,s0,xs1,ys1,rfl,s1,xs2,ys2,rfl,s2,xs3,ys3,rfl,s3,rfl⟩:=h
 obtain ⟨v0,rfl,k0⟩:=s0
 obtain ⟨v1,rfl,k1⟩:=s1
 obtain ⟨v2,rfl,k2⟩:=s2
 obtain ⟨v3,rfl,k3⟩:=s3
 refine ⟨⟨v0,v1,v2,v3⟩,?_,trivial⟩
 simp only [List.map_append,List.map_cons,List.map_nil,erL,ay,cw]
 rfl
def jW:Ty:=(.struct (.cons .str (.cons (.struct (.cons (.int .i64) (.cons (.int .i64) .nil))) (.cons (.int .i64) (.cons (.slice (.struct (.cons (.int .i64) (.cons (.int .i64) (.cons (.int .i64) (.cons (.int .i64) .nil)))))) .nil)))))
theorem tO {ts:List DT} (h:Shape jW ts):∃ x:LRun,erL ts=LRun.t .far x∧Wf.wf x:=by
 simp only [jW,Shape,ShapeF] at h
 obtain ⟨xs0,ys0,rfl,s0,xs1,ys1,rfl,s1,xs2,ys2,rfl,s2,xs3,ys3,rfl,s3,rfl⟩:=h
 obtain ⟨v0,rfl,k0⟩:=s0
 obtain ⟨v1,e1,k1⟩:=rt (ts:=xs1) (by simp only [kU,Shape,ShapeF];exact s1)
 obtain ⟨v2,rfl,k2⟩:=s2
 obtain ⟨d3,r3,rfl,k3,a3⟩:=s3
 obtain ⟨v3,e3,b3,c3⟩:=il (enc:=GState.t) (B:=Wf.wf) r3 (fun r hr=>pR (by simp only [jw,Shape,ShapeF];exact a3 r hr))
 refine ⟨⟨v0,v1,v2,v3⟩,?_,⟨k0,k1,⟨by rw [b3];exact k3,c3⟩⟩⟩
 simp only [List.map_append,List.map_cons,List.map_nil,erL,ay,cw,e1,e3]
 rfl
theorem qO {H:Type} {enc:TypeId×Value→H} {a:Assume} {C:Checked} {os:Os} {f:FuncId} {fn:Func} {s:ChangeSpec} {conds:List PathCond} {apart fresh handsOn again:Bool} {X:World→Array Value→Prop}
  (hX:∀ (w w':World) (args:Array Value),w.heap=w'.heap→X w args→X w' args)
  (own:ownKnob C.prog.godebug=none) (started:os.Started) (noInit:C.prog.inits.idxOf? f=none) (hfn:C.prog.funcs[f]?=some fn)
  (witness:∃ (w:World) (tape:Tape) (i:Input),w.os=os∧(w.forCall tape i).Shaped C.prog∧i.vars=[]∧Input.okWide C.prog (w.forCall tape i) .any w.heap.size f i ∧
   ((s.pre enc C.prog fn conds apart (w.forCall tape i).memory i.args∧X (w.forCall tape i).memory i.args)∧sizedMet enc C.prog fn (OpenSpec.ofChange s) apart (w.forCall tape i).memory i.args)∧a.holds C.prog (lone (Frame.enter C.prog f i.args .normal) [] (w.forCall tape i)))
  (contract:∀ (W:World) (base:Nat) (args:Array Value) (ds gs:List (DataW H)) (before:List MemPlace),
   (∀ (j:Nat) t v,fn.params[j]?=some t→args[j]?=some v→Value.okWide C.prog W .any base t v) →
   DataW.Whole enc C.prog fn.params.toList s.vars apart W args.toList ds gs before →
   X W args→W.ShapedOpen C.prog →
   Calls C.prog f args W fun e W'=>∃ v,e = .returned v∧s.post enc C.prog fn apart fresh handsOn again W args v W') :
  ReturnsInHanded a C os f .any (fun w args=>(s.pre enc C.prog fn conds apart w args∧X w args)∧sizedMet enc C.prog fn (OpenSpec.ofChange s) apart w args) (s.post enc C.prog fn apart fresh handsOn again):=by
 refine returnsInHanded_of_calls own started noInit witness ?_
 intro w tape i _ hsh _ hok hpre _
 obtain ⟨_,_,_,fn',hfn',_,_,_,_,hval⟩:=hok
 have e:fn'=fn:=Option.some.inj (hfn'.symm.trans hfn)
 subst e
 obtain ⟨⟨⟨ds,gs,before,hw,hc⟩,hx⟩,hz⟩:=hpre
 have hw':=DataW.Whole.of_heap (w':=w.forCall tape i) (by rfl) hw
 refine (contract (w.forCall tape i) w.heap.size i.args ds gs before hval hw' (hX _ _ _ (by rfl) hx) hsh).mono fun e W' ⟨v,he,hp⟩ => ?_
 subst he
 exact ChangeSpec.post_blind hp
theorem xi {W:World} (hS:W.ShapedOpen Tryz.prog) (hL:laidMetH Tryz.prog Rows.fnExactRunOkRow.laid W):ia.ok W []:=by
 rw [MakeChecks.laidMetH_plain _ _ _ (by kernel_rfl)] at hL
 refine ⟨?_,fun b h=>(by cases h),?_,?_⟩
 ·obtain ⟨x,hx⟩:=Option.isSome_iff_exists.1 (show (((begin Tryz.prog (fun _ _=>0) default).world.heap[5]?).bind Obj.row?).isSome=true by kernel_rfl)
  obtain ⟨cs,hh,_⟩:=hS.1 5 x.1 x.2 (of_decide_eq_true (by kernel_rfl)) hx
  have hn:ia.n=6:=by show Tryz.prog.globals.size=6;kernel_rfl
  rw [hn]
  rcases Nat.lt_or_ge 5 W.heap.size with g | g
  ·exact g
  ·rw [Array.getElem?_eq_none g] at hh;cases hh
 ·exact cell_of_shapedOpen_int (t:=3) (zero := #[.int .i64 0]) hS (of_decide_eq_true (by kernel_rfl)) (by kernel_rfl) rfl (by kernel_rfl) (by kernel_rfl) Tryz.underlying3
 ·have e:Rows.laid_internal_strconv_uint64pow10 (H:=Unit)=Lib.tabData .u64 Lib.pow10Tab:=by kernel_rfl
  refine Lib.tabIs_of_head (rest:=Rows.fnExactRunOkRow.laid.drop 3) (g:=1) (t:=188) (e:=162) (n:=20) (by kernel_rfl) (by kernel_rfl) Tryz.underlying188 (by kernel_rfl) (by kernel_rfl) (by kernel_rfl) ?_
  rw [← e]
  exact hL.tail.tail
set_option maxRecDepth 100000 in
theorem Bz (os:Os) (started:os.Started) (H:Type) (enc:TypeId×Value→H) :
  ReturnsInHanded {} Tryz.checked os 4 .any (fun w args=>(Rows.fnExactRunOkSpec.pre enc Tryz.prog Tryz.f4 Rows.fnExactRunOkRow.domain false w args∧laidMetH Tryz.prog Rows.fnExactRunOkRow.laid w)∧sizedMet enc Tryz.prog Tryz.f4 (OpenSpec.ofChange Rows.fnExactRunOkSpec) false w args)
   (Rows.fnExactRunOkSpec.post enc Tryz.prog Tryz.f4 false true false false):=by
 refine qO (C:=Tryz.checked) (X:=fun w _=>laidMetH Tryz.prog Rows.fnExactRunOkRow.laid w) (fun _ _ _ hh h=>h.of_heap hh) own started (by kernel_rfl) Tryz.func4
  (ChangeSpec.witness_shaped (enc:=enc) (C:=Tryz.checked) (os:=os) (X:=fun w _=>laidMetH Tryz.prog Rows.fnExactRunOkRow.laid w) false (World.laidAll Tryz.prog os Rows.fnExactRunOkRow.laid) #[.agg #[.string ByteArray.empty,.string ByteArray.empty,.int .i64 0,.int .i64 0,.bool false,.slice none 0 0],.agg #[.string ByteArray.empty,.int .i64 0,.int .i64 0,.int .i64 0,.slice none 0 0]] 8 (World.laidAll_os _ _ _)
   (World.shaped_of_ZipB (by kernel_rfl) (by kernel_rfl)) (by kernel_rfl) (by kernel_rfl) (by kernel_rfl)
   (by rw [MakeChecks.laidMetH_plain _ _ _ (by kernel_rfl)];exact laidMet_laidAll _ (by kernel_rfl) (by kernel_rfl))) ?_
 intro W base args ds gs before hval0 hW hL hS
 have hB:=xi hS hL
 have hval:∀ (j:Nat) t v,Tryz.f4.params[j]?=some t→args[j]?=some v→Value.okWide Tryz.prog W .any base t v:=hval0
 have hW':=hW
 obtain ⟨p,q,hA0,hV,rfl,hfz,hnd⟩:=hW
 have hA:DataW.TrodAll enc Tryz.prog W 0 (fun _=>true) true Tryz.f4.params.toList args.toList ds p:=hA0
 rw [Tryz.params4] at hA hval
 have hlt:=hA.lt
 obtain ⟨v0,vs0,d0,ds0,p0,q0,hargs,rfl,rfl,h0,r0⟩:=trodAll_cons hA
 obtain ⟨v1,vs1,d1,ds1,p1,q1,hargs1,rfl,rfl,h1,r1⟩:=trodAll_cons r0
 obtain ⟨rfl,rfl,rfl⟩:=trodAll_nil r1
 obtain rfl:args = #[v0,v1]:=by cases args;simp_all
 obtain ⟨rfl,rfl⟩:=trodVars_none hV
 have hok0:=hval 0 24 v0 rfl rfl
 unfold Value.okWide at hok0
 rw [Tryz.underlying24] at hok0
 obtain ⟨cs0,rfl,_,_⟩:=hok0
 have h0k:=h0
 obtain ⟨n0,h0⟩:=h0
 obtain ⟨ts0,R0,S0,L0⟩:=Ty.open jV n0 24 _ _ (by kernel_rfl) h0
 obtain ⟨x0,e0,k0⟩:=tN S0
 have hok1:=hval 1 46 v1 rfl rfl
 unfold Value.okWide at hok1
 rw [Tryz.underlying46] at hok1
 obtain ⟨cs1,rfl,_,_⟩:=hok1
 have h1k:=h1
 obtain ⟨n1,h1⟩:=h1
 obtain ⟨ts1,R1,S1,L1⟩:=Ty.open jW n1 46 _ _ (by kernel_rfl) h1
 obtain ⟨x1,e1,k1⟩:=tO S1
 clear hA0 hval0
 refine (Jj (CD x0 x1 k0 k1) hB (ad:=[.agg ts0,.agg ts1]) (by simp only [List.map_cons,List.map_nil,Sl.er,cw,ay];rw [e0];rw [e1]) (ArgsIn.cons (AOk.agg R0 (Shape.noLent jV _ S0)) (ArgsIn.cons (AOk.agg R1 (Shape.noLent jW _ S1)) (ArgsIn.nil W)))).mono fun e W' ⟨he,bel⟩ => ?_
 subst he
 exact ⟨_,rfl,_,_,_,[],_,[],hW',trodAll_mk1 (shut_bool Tryz.underlying4 _),(trodAll_cons_mk (Below.trod laid (by kernel_rfl) (of_decide_eq_true (by kernel_rfl)) h0k bel (fun x hx=>hlt x (by simp [hx]))) (trodAll_cons_mk (Below.trod laid (by kernel_rfl) (of_decide_eq_true (by kernel_rfl)) h1k bel (fun x hx=>hlt x (by simp [hx]))) trodAll_mk0)),rfl,bel.frame _,fun h=>by cases h⟩
theorem HX:Rows.fnExactRunOkRow.holds Tryz.pinned (OpenSpec.ofChange Rows.fnExactRunOkSpec) :=
 OpenClaim.holds_of_wide 4 Tryz.f4 rfl rfl rfl rfl rfl rfl rfl ⟨rfl,rfl,rfl,rfl,rfl⟩ rfl rfl rfl rfl rfl (by kernel_rfl) Tryz.func4 (by kernel_rfl)
  (of_decide_eq_true (by kernel_rfl)) (by unfold Func.isWrapper;first | (rw [if_pos (by decide +kernel)];kernel_rfl) | (rw [if_neg (by decide +kernel)];exact ⟨rfl,rfl⟩))
  (fun os started H enc _=>Bz os started H enc)
theorem proved:Rows.FnExactRunOkCardSaid :=
 Claim7.holds_tied_plain_at .later [] [.data, .data, .data, .data, .pinned] true (true, "1ebbf59b39b94595b7967bb5696adfc877bfa01e57266b9c4ca2cfa107df7746") false HX (fun _ h => by cases h) (by kernel_rfl) (fun _ h => by cases h) fnExactRunOk_row_tie rfl ⟨rfl, rfl⟩ (by kernel_rfl) rfl
  (fun f fn hf hfn=>by
   obtain rfl : f = 4 := Option.some.inj ((show Tryz.prog.funcNamed "loop.example/g00188/laws.FnExactRunOk" = some 4 by kernel_rfl).symm.trans hf) |>.symm
   obtain rfl:fn=Tryz.f4:=(Option.some.inj (Tryz.func4.symm.trans hfn)).symm
   exact ⟨by kernel_rfl,fun j t ht=>by
    rw [Tryz.params4] at ht
    have hm:t∈[24,46]:=by simpa using Array.mem_of_getElem? ht
    have hall:([24,46].all fun u => !Tryz.prog.wantsStandIn u)=true:=by kernel_rfl
    exact (show Tryz.prog.wantsStandIn t=false by simpa using List.all_eq_true.1 hall t hm)⟩)
  (by kernel_rfl)
end Go.Proofs.YtgaiiephdjllkaaGreatDoor.fnExactRunOk
namespace Go.Proofs.YtgaiiephdjllkaaGreatDoor
theorem fnExactRunOk_holds:Rows.FnExactRunOkCardSaid:=fnExactRunOk.proved
end Go.Proofs.YtgaiiephdjllkaaGreatDoor
