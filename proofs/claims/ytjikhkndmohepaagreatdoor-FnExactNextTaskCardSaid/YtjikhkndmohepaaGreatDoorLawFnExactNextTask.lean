/- 'laws.FnExactNextTask' returns true for every board, and leaves the board as it was. Conditions: none. -/
import Derived.Test.YtjikhkndmohepaaGreatDoorNexf
import Derived.Test.YtjikhkndmohepaaGreatDoorShells
import Derived.Test.YtjikhkndmohepaaGreatDoorRows
import Derived.Test.YtjikhkndmohepaaGreatDoorCards
import Derived.Test.YtjikhkndmohepaaGreatDoorTie
import Derived.WalkKit
import Derived.ProofKit
import Derived.OpenShut
import Derived.ShutString
import Derived.ChangeOld
import Derived.Below
import Derived.SizedLaws
import Derived.Lay
import Derived.LaidMore
import Derived.SevenTiedAt
import Derived.Stop.Joined
import Derived.Stop.LaidErr
import Derived.Lib.LaidTab
import Derived.Shelf.Vars
import Derived.HandedShaped
namespace Go.Proofs.YtjikhkndmohepaaGreatDoor.Am
open Go
set_option linter.unusedVariables false
set_option linter.unusedSimpArgs false
section
open Go.Proofs Classical
set_option maxRecDepth 100000
noncomputable def mf (a:LBoard):Option (Bool):=if Wf.wf a then cond (decide ((ci a (1048576:Int))<(0:Int))) (some (true)) (if ab.sm a then if ab.sm (ah a)then cond (((az (ah a)).1) != ((az (ah a)).1)) (some (false)) (cond (((az (ah a)).2.1) != ((az (ah a)).2.1)) (some (false)) (cond (!(((az (ah a)).2.2)==((az (ah a)).2.2))) (some (false)) (if(ah a)=(ah a)then cond (yes (ah a) (ah a)) (some (true)) (some (false))else none)))else none else none)else none
theorem zx {q0:Kd}(a:LBoard):Ans (mf a) (fun r=>Does E 3 [.agg (VR .far q0 a)] [VY r]):=by
 unfold mf;apply VE;intro d;apply VC<;>intro e
 ·exact Vz (DP Tryz.f3 [.ret [VX (ci a 1048576)],.b true] (AV (ψ:=fun k=>E.C k 4 [.agg (VR .far q0 a),V2 (1048576:Int)]=some [VX (ci a 1048576)]) (lP a 1048576 d)<|AC e<|AN))
 ·apply VE;intro b;apply VE;intro c;apply VC<;>intro f
  ·exact Vz (DP Tryz.f3 [.ret [VX (ci a 1048576)],.b false,.ret [(true,VI .own .own (ah a))],.ret [VX ((az (ah a)).1),VX ((az (ah a)).2.1),VY ((az (ah a)).2.2)],.ret [(true,VI .own .own (ah a))],.ret [VX ((az (ah a)).1),VX ((az (ah a)).2.1),VY ((az (ah a)).2.2)],.b true] (AV (ψ:=fun k=>E.C k 4 [.agg (VR .far q0 a),V2 (1048576:Int)]=some [VX (ci a 1048576)]) (lP a 1048576 d)<|AC e<|AV (ψ:=fun k=>E.C k 6 [.agg (VR .far q0 a)]=some [(true,VI .own .own (ah a))]) (eC a b)<|AV (ψ:=fun k=>E.C k 5 [.agg (VI .far .own (ah a))]=some [VX ((az (ah a)).1),VX ((az (ah a)).2.1),VY ((az (ah a)).2.2)]) (my (ah a) c)<|AV (ψ:=fun k=>E.C k 6 [.agg (VR .far q0 a)]=some [(true,VI .own .own (ah a))]) (eC a b)<|AV (ψ:=fun k=>E.C k 7 [.agg (VI .far .own (ah a))]=some [VX ((az (ah a)).1),VX ((az (ah a)).2.1),VY ((az (ah a)).2.2)]) (mw (ah a) c)<|AC f<|AN))
  ·apply VC<;>intro g
   ·exact Vz (DP Tryz.f3 [.ret [VX (ci a 1048576)],.b false,.ret [(true,VI .own .own (ah a))],.ret [VX ((az (ah a)).1),VX ((az (ah a)).2.1),VY ((az (ah a)).2.2)],.ret [(true,VI .own .own (ah a))],.ret [VX ((az (ah a)).1),VX ((az (ah a)).2.1),VY ((az (ah a)).2.2)],.b false,.b true] (AV (ψ:=fun k=>E.C k 4 [.agg (VR .far q0 a),V2 (1048576:Int)]=some [VX (ci a 1048576)]) (lP a 1048576 d)<|AC e<|AV (ψ:=fun k=>E.C k 6 [.agg (VR .far q0 a)]=some [(true,VI .own .own (ah a))]) (eC a b)<|AV (ψ:=fun k=>E.C k 5 [.agg (VI .far .own (ah a))]=some [VX ((az (ah a)).1),VX ((az (ah a)).2.1),VY ((az (ah a)).2.2)]) (my (ah a) c)<|AV (ψ:=fun k=>E.C k 6 [.agg (VR .far q0 a)]=some [(true,VI .own .own (ah a))]) (eC a b)<|AV (ψ:=fun k=>E.C k 7 [.agg (VI .far .own (ah a))]=some [VX ((az (ah a)).1),VX ((az (ah a)).2.1),VY ((az (ah a)).2.2)]) (mw (ah a) c)<|AC f<|AC g<|AN))
   ·apply VC<;>intro h
    ·exact Vz (DP Tryz.f3 [.ret [VX (ci a 1048576)],.b false,.ret [(true,VI .own .own (ah a))],.ret [VX ((az (ah a)).1),VX ((az (ah a)).2.1),VY ((az (ah a)).2.2)],.ret [(true,VI .own .own (ah a))],.ret [VX ((az (ah a)).1),VX ((az (ah a)).2.1),VY ((az (ah a)).2.2)],.b false,.b false,.b true] (AV (ψ:=fun k=>E.C k 4 [.agg (VR .far q0 a),V2 (1048576:Int)]=some [VX (ci a 1048576)]) (lP a 1048576 d)<|AC e<|AV (ψ:=fun k=>E.C k 6 [.agg (VR .far q0 a)]=some [(true,VI .own .own (ah a))]) (eC a b)<|AV (ψ:=fun k=>E.C k 5 [.agg (VI .far .own (ah a))]=some [VX ((az (ah a)).1),VX ((az (ah a)).2.1),VY ((az (ah a)).2.2)]) (my (ah a) c)<|AV (ψ:=fun k=>E.C k 6 [.agg (VR .far q0 a)]=some [(true,VI .own .own (ah a))]) (eC a b)<|AV (ψ:=fun k=>E.C k 7 [.agg (VI .far .own (ah a))]=some [VX ((az (ah a)).1),VX ((az (ah a)).2.1),VY ((az (ah a)).2.2)]) (mw (ah a) c)<|AC f<|AC g<|AC h<|AN))
    ·apply VE;intro i;apply VC<;>intro j
     ·exact Vz (DP Tryz.f3 [.ret [VX (ci a 1048576)],.b false,.ret [(true,VI .own .own (ah a))],.ret [VX ((az (ah a)).1),VX ((az (ah a)).2.1),VY ((az (ah a)).2.2)],.ret [(true,VI .own .own (ah a))],.ret [VX ((az (ah a)).1),VX ((az (ah a)).2.1),VY ((az (ah a)).2.2)],.b false,.b false,.b false,.ret [(true,VI .own .own (ah a))],rT] (AV (ψ:=fun k=>E.C k 4 [.agg (VR .far q0 a),V2 (1048576:Int)]=some [VX (ci a 1048576)]) (lP a 1048576 d)<|AC e<|AV (ψ:=fun k=>E.C k 6 [.agg (VR .far q0 a)]=some [(true,VI .own .own (ah a))]) (eC a b)<|AV (ψ:=fun k=>E.C k 5 [.agg (VI .far .own (ah a))]=some [VX ((az (ah a)).1),VX ((az (ah a)).2.1),VY ((az (ah a)).2.2)]) (my (ah a) c)<|AV (ψ:=fun k=>E.C k 6 [.agg (VR .far q0 a)]=some [(true,VI .own .own (ah a))]) (eC a b)<|AV (ψ:=fun k=>E.C k 7 [.agg (VI .far .own (ah a))]=some [VX ((az (ah a)).1),VX ((az (ah a)).2.1),VY ((az (ah a)).2.2)]) (mw (ah a) c)<|AC f<|AC g<|AC h<|AV (ψ:=fun k=>E.C k 6 [.agg (VR .far q0 a)]=some [(true,VI .own .own (ah a))]) (eC a b)<|AV (ψ:=fun k=>E.C k 8 [.agg (VI .far .own (ah a)),.agg (VI .far .own (ah a))]=some [VY true]) (VF (BK (ah a) (ah a) i c) (by rw[j]))<|AN))
     ·exact Vz (DP Tryz.f3 [.ret [VX (ci a 1048576)],.b false,.ret [(true,VI .own .own (ah a))],.ret [VX ((az (ah a)).1),VX ((az (ah a)).2.1),VY ((az (ah a)).2.2)],.ret [(true,VI .own .own (ah a))],.ret [VX ((az (ah a)).1),VX ((az (ah a)).2.1),VY ((az (ah a)).2.2)],.b false,.b false,.b false,.ret [(true,VI .own .own (ah a))],rF] (AV (ψ:=fun k=>E.C k 4 [.agg (VR .far q0 a),V2 (1048576:Int)]=some [VX (ci a 1048576)]) (lP a 1048576 d)<|AC e<|AV (ψ:=fun k=>E.C k 6 [.agg (VR .far q0 a)]=some [(true,VI .own .own (ah a))]) (eC a b)<|AV (ψ:=fun k=>E.C k 5 [.agg (VI .far .own (ah a))]=some [VX ((az (ah a)).1),VX ((az (ah a)).2.1),VY ((az (ah a)).2.2)]) (my (ah a) c)<|AV (ψ:=fun k=>E.C k 6 [.agg (VR .far q0 a)]=some [(true,VI .own .own (ah a))]) (eC a b)<|AV (ψ:=fun k=>E.C k 7 [.agg (VI .far .own (ah a))]=some [VX ((az (ah a)).1),VX ((az (ah a)).2.1),VY ((az (ah a)).2.2)]) (mw (ah a) c)<|AC f<|AC g<|AC h<|AV (ψ:=fun k=>E.C k 6 [.agg (VR .far q0 a)]=some [(true,VI .own .own (ah a))]) (eC a b)<|AV (ψ:=fun k=>E.C k 8 [.agg (VI .far .own (ah a)),.agg (VI .far .own (ah a))]=some [VY false]) (VF (BK (ah a) (ah a) i c) (by rw[j]))<|AN))
theorem Fb {q0:Kd}(a:LBoard)(h:Wf.wf a):Does E 3 [.agg (VR .far q0 a)] [VY true]:=by have hs:=Kw a 1048576 h (by omega) (by omega);exact zx a _ (by unfold mf;refine TZ h (Um fun q=>?_);have hs:=(hs q).2;have b:=Lu hs;simp[hs,b,yes])
end
end Go.Proofs.YtjikhkndmohepaaGreatDoor.Am
namespace Go.Proofs.YtjikhkndmohepaaGreatDoor.fnExactNextTask
open Go.ChangeShapes Go.WideShapes Go.ChangeAt Go.RowKit Go.Proofs.YtjikhkndmohepaaGreatDoor.Am
open Go.ChangeMaps (open_string shut_string)
set_option linter.unusedVariables false
set_option linter.unusedSimpArgs false
theorem own:ownKnob Tryz.prog.godebug=none:=by kernel_rfl
theorem laid:laidOutB Tryz.prog=true:=by kernel_rfl
theorem pc {α:Type}{enc:α→List (T Unit)}{B:α→Prop}:∀(rows:List (List DT)),(∀r∈rows,∃x,erL r=enc x∧B x)→∃l:List α,rows.map erL=l.map enc∧l.length=rows.length∧∀y∈l,B y
 |[],_=>⟨[],rfl,rfl,fun y h=>by cases h⟩
 |r::rs,h=>by
  obtain⟨x,h1,h2⟩:=h r (by simp);obtain⟨l,g1,g2,g3⟩:=pc rs fun q hq=>h q (by simp[hq])
  refine⟨x::l,by simp only[Wv,h1,g1],by simp[g2],fun y hy=>?_⟩;rcases WE.1 hy with rfl|hy
  ·exact h2
  ·exact g3 y hy
def wH:Ty:=(.struct (.cons (.int .i64) (.cons (.int .i64) (.cons .str .nil))))
theorem H9 {ts:List DT}(h:Shape wH ts):∃x:GSession,erL ts=VN x∧Wf.wf x:=by simp only[wH,Shape,ShapeF]at h;obtain⟨xs0,ys0,rfl,s0,xs1,ys1,rfl,s1,xs2,ys2,rfl,s2,rfl⟩:=h;obtain⟨v0,rfl,k0⟩:=s0;obtain⟨v1,rfl,k1⟩:=s1;obtain⟨v2,rfl,k2⟩:=s2;refine⟨⟨v0,v1,v2⟩,?_,k2⟩;simp only[W8,Wv,WM,erL,aC,dz];rfl
def Dm:Ty:=(.struct (.cons .str (.cons .str (.cons (.int .i64) (.cons .bool (.cons (.slice .str) .nil))))))
theorem PC {ts:List DT}(h:Shape Dm ts):∃x:GTask,erL ts=VQ .far x∧Wf.wf x:=by simp only[Dm,Shape,ShapeF]at h;obtain⟨xs0,ys0,rfl,s0,xs1,ys1,rfl,s1,xs2,ys2,rfl,s2,xs3,ys3,rfl,s3,xs4,ys4,rfl,s4,rfl⟩:=h;obtain⟨v0,rfl,k0⟩:=s0;obtain⟨v1,rfl,k1⟩:=s1;obtain⟨v2,rfl,k2⟩:=s2;obtain⟨v3,rfl⟩:=s3;obtain⟨d4,r4,rfl,k4,a4⟩:=s4;obtain⟨v4,e4,b4,c4⟩:=pc (enc:=etS) (B:=Wf.wf) r4 (fun r hr=>(by obtain⟨s,rfl,hs⟩:=a4 r hr;exact⟨s,rfl,hs⟩));refine⟨⟨v0,v1,v2,v3,v4⟩,?_,⟨k0,k1,⟨by rw[b4];exact k4,c4⟩⟩⟩;simp only[W8,Wv,WM,erL,aC,dz,e4];rfl
def Gy:Ty:=(.struct (.cons .str (.cons .str (.cons (.int .i64) (.cons (.int .i64) (.cons .bool (.cons (.slice (.struct (.cons .str (.cons .str (.cons (.int .i64) (.cons .bool (.cons (.slice .str) .nil))))))) .nil)))))))
theorem Rk {ts:List DT}(h:Shape Gy ts):∃x:LDag,erL ts=VU .far .far x∧Wf.wf x:=by simp only[Gy,Shape,ShapeF]at h;obtain⟨xs0,ys0,rfl,s0,xs1,ys1,rfl,s1,xs2,ys2,rfl,s2,xs3,ys3,rfl,s3,xs4,ys4,rfl,s4,xs5,ys5,rfl,s5,rfl⟩:=h;obtain⟨v0,rfl,k0⟩:=s0;obtain⟨v1,rfl,k1⟩:=s1;obtain⟨v2,rfl,k2⟩:=s2;obtain⟨v3,rfl,k3⟩:=s3;obtain⟨v4,rfl⟩:=s4;obtain⟨d5,r5,rfl,k5,a5⟩:=s5;obtain⟨v5,e5,b5,c5⟩:=pc (enc:=(VQ .far)) (B:=Wf.wf) r5 (fun r hr=>PC (by simp only[Dm,Shape,ShapeF];exact a5 r hr));refine⟨⟨v0,v1,v2,v3,v4,v5⟩,?_,⟨k0,k1,⟨by rw[b5];exact k5,c5⟩⟩⟩;simp only[W8,Wv,WM,erL,aC,dz,e5];rfl
def Dn:Ty:=(.struct (.cons (.struct (.cons .str (.cons .str (.cons (.int .i64) (.cons (.int .i64) (.cons .bool (.cons (.slice (.struct (.cons .str (.cons .str (.cons (.int .i64) (.cons .bool (.cons (.slice .str) .nil))))))) .nil))))))) (.cons .bool (.cons (.int .i64) (.cons (.int .i64) .nil)))))
theorem PD {ts:List DT}(h:Shape Dn ts):∃x:LPlan,erL ts=VV .far .far x∧Wf.wf x:=by simp only[Dn,Shape,ShapeF]at h;obtain⟨xs0,ys0,rfl,s0,xs1,ys1,rfl,s1,xs2,ys2,rfl,s2,xs3,ys3,rfl,s3,rfl⟩:=h;obtain⟨v0,e0,k0⟩:=Rk (ts:=xs0) (by simp only[Gy,Shape,ShapeF];exact s0);obtain⟨v1,rfl⟩:=s1;obtain⟨v2,rfl,k2⟩:=s2;obtain⟨v3,rfl,k3⟩:=s3;refine⟨⟨v0,v1,v2,v3⟩,?_,k0⟩;simp only[W8,Wv,WM,erL,aC,dz,e0];rfl
def Dl:Ty:=(.struct (.cons (.int .i64) (.cons (.int .i64) .nil)))
theorem PB {ts:List DT}(h:Shape Dl ts):∃x:GSpan,erL ts=VO x∧Wf.wf x:=by simp only[Dl,Shape,ShapeF]at h;obtain⟨xs0,ys0,rfl,s0,xs1,ys1,rfl,s1,rfl⟩:=h;obtain⟨v0,rfl,k0⟩:=s0;obtain⟨v1,rfl,k1⟩:=s1;refine⟨⟨v0,v1⟩,?_,trivial⟩;simp only[W8,Wv,WM,erL,aC,dz];rfl
def Bs:Ty:=(.struct (.cons (.int .i64) (.cons (.int .i64) (.cons (.int .i64) (.cons (.int .i64) .nil)))))
theorem MY {ts:List DT}(h:Shape Bs ts):∃x:GState,erL ts=VP x∧Wf.wf x:=by simp only[Bs,Shape,ShapeF]at h;obtain⟨xs0,ys0,rfl,s0,xs1,ys1,rfl,s1,xs2,ys2,rfl,s2,xs3,ys3,rfl,s3,rfl⟩:=h;obtain⟨v0,rfl,k0⟩:=s0;obtain⟨v1,rfl,k1⟩:=s1;obtain⟨v2,rfl,k2⟩:=s2;obtain⟨v3,rfl,k3⟩:=s3;refine⟨⟨v0,v1,v2,v3⟩,?_,trivial⟩;simp only[W8,Wv,WM,erL,aC,dz];rfl
def Gz:Ty:=(.struct (.cons .str (.cons (.struct (.cons (.int .i64) (.cons (.int .i64) .nil))) (.cons (.int .i64) (.cons (.slice (.struct (.cons (.int .i64) (.cons (.int .i64) (.cons (.int .i64) (.cons (.int .i64) .nil)))))) .nil)))))
theorem Rl {ts:List DT}(h:Shape Gz ts):∃x:LRun,erL ts=VW .far x∧Wf.wf x:=by simp only[Gz,Shape,ShapeF]at h;obtain⟨xs0,ys0,rfl,s0,xs1,ys1,rfl,s1,xs2,ys2,rfl,s2,xs3,ys3,rfl,s3,rfl⟩:=h;obtain⟨v0,rfl,k0⟩:=s0;obtain⟨v1,e1,k1⟩:=PB (ts:=xs1) (by simp only[Dl,Shape,ShapeF];exact s1);obtain⟨v2,rfl,k2⟩:=s2;obtain⟨d3,r3,rfl,k3,a3⟩:=s3;obtain⟨v3,e3,b3,c3⟩:=pc (enc:=VP) (B:=Wf.wf) r3 (fun r hr=>MY (by simp only[Bs,Shape,ShapeF];exact a3 r hr));refine⟨⟨v0,v1,v2,v3⟩,?_,⟨k0,k1,⟨by rw[b3];exact k3,c3⟩⟩⟩;simp only[W8,Wv,WM,erL,aC,dz,e1,e3];rfl
def vP:Ty:=(.struct (.cons (.slice (.struct (.cons (.int .i64) (.cons (.int .i64) (.cons .str .nil))))) (.cons (.slice (.struct (.cons (.struct (.cons .str (.cons .str (.cons (.int .i64) (.cons (.int .i64) (.cons .bool (.cons (.slice (.struct (.cons .str (.cons .str (.cons (.int .i64) (.cons .bool (.cons (.slice .str) .nil))))))) .nil))))))) (.cons .bool (.cons (.int .i64) (.cons (.int .i64) .nil)))))) (.cons (.slice (.struct (.cons .str (.cons (.struct (.cons (.int .i64) (.cons (.int .i64) .nil))) (.cons (.int .i64) (.cons (.slice (.struct (.cons (.int .i64) (.cons (.int .i64) (.cons (.int .i64) (.cons (.int .i64) .nil)))))) .nil)))))) (.cons (.int .i64) (.cons (.int .i64) .nil))))))
theorem MZ {ts:List DT}(h:Shape vP ts):∃x:LBoard,erL ts=VR .far .far x∧Wf.wf x:=by simp only[vP,Shape,ShapeF]at h;obtain⟨xs0,ys0,rfl,s0,xs1,ys1,rfl,s1,xs2,ys2,rfl,s2,xs3,ys3,rfl,s3,xs4,ys4,rfl,s4,rfl⟩:=h;obtain⟨d0,r0,rfl,k0,a0⟩:=s0;obtain⟨v0,e0,b0,c0⟩:=pc (enc:=VN) (B:=Wf.wf) r0 (fun r hr=>H9 (by simp only[wH,Shape,ShapeF];exact a0 r hr));obtain⟨d1,r1,rfl,k1,a1⟩:=s1;obtain⟨v1,e1,b1,c1⟩:=pc (enc:=(VV .far .far)) (B:=Wf.wf) r1 (fun r hr=>PD (by simp only[Dn,Shape,ShapeF];exact a1 r hr));obtain⟨d2,r2,rfl,k2,a2⟩:=s2;obtain⟨v2,e2,b2,c2⟩:=pc (enc:=(VW .far)) (B:=Wf.wf) r2 (fun r hr=>Rl (by simp only[Gz,Shape,ShapeF];exact a2 r hr));obtain⟨v3,rfl,k3⟩:=s3;obtain⟨v4,rfl,k4⟩:=s4;refine⟨⟨v0,v1,v2,v3,v4⟩,?_,⟨⟨by rw[b0];exact k0,c0⟩,⟨by rw[b1];exact k1,c1⟩,⟨by rw[b2];exact k2,c2⟩⟩⟩;simp only[W8,Wv,WM,erL,aC,dz,e0,e1,e2];rfl
theorem Ot {H:Type}{enc:TypeId×Value→H}{a:Assume}{C:Checked}{os:Os}{f:FuncId}{fn:Func}{s:ChangeSpec}{conds:List PathCond}{apart fresh handsOn again:Bool}{X:World→Array Value→Prop}
  (hX:∀(w w':World)(args:Array Value),w.heap=w'.heap→X w args→X w' args)
  (own:ownKnob C.prog.godebug=none) (started:os.Started) (noInit:C.prog.inits.idxOf? f=none) (hfn:C.prog.funcs[f]?=some fn)
  (witness:∃(w:World) (tape:Tape) (i:Input),w.os=os∧(w.forCall tape i).Shaped C.prog∧i.vars=[]∧Input.okWide C.prog (w.forCall tape i) .any w.heap.size f i ∧
   ((s.pre enc C.prog fn conds apart (w.forCall tape i).memory i.args∧X (w.forCall tape i).memory i.args)∧sizedMet enc C.prog fn (OpenSpec.ofChange s) apart (w.forCall tape i).memory i.args)∧a.holds C.prog (lone (Frame.enter C.prog f i.args .normal) [] (w.forCall tape i)))
  (contract:∀(W:World)(base:Nat)(args:Array Value)(ds gs:List (DataW H))(before:List MemPlace),
   (∀(j:Nat) t v,fn.params[j]?=some t→args[j]?=some v→Value.okWide C.prog W .any base t v) →
   DataW.Whole enc C.prog fn.params.toList s.vars apart W args.toList ds gs before →
   X W args→W.ShapedOpen C.prog →
   Calls C.prog f args W fun e W'=>∃v,e = .returned v∧s.post enc C.prog fn apart fresh handsOn again W args v W'):
  ReturnsInHanded a C os f .any (fun w args=>(s.pre enc C.prog fn conds apart w args∧X w args)∧sizedMet enc C.prog fn (OpenSpec.ofChange s) apart w args) (s.post enc C.prog fn apart fresh handsOn again):=by
 refine returnsInHanded_of_calls own started noInit witness ?_;intro w tape i _ hsh _ hok hpre _;obtain⟨_,_,_,fn',hfn',_,_,_,_,hval⟩:=hok;have e:fn'=fn:=X0 (hfn'.symm.trans hfn);subst e;obtain⟨⟨⟨ds,gs,before,hw,hc⟩,hx⟩,hz⟩:=hpre;have hw':=DataW.Whole.of_heap (w':=w.forCall tape i) (by rfl) hw;refine(contract (w.forCall tape i) w.heap.size i.args ds gs before hval hw' (hX _ _ _ (by rfl) hx) hsh).mono fun e W' ⟨v,he,hp⟩=>?_
 subst he;exact ChangeSpec.post_blind hp
theorem Td {W:World}(hS:W.ShapedOpen Tryz.prog)(hL:laidMetH Tryz.prog Rows.fnExactNextTaskRow.laid W):m8.ok W []:=by
 rw[MakeChecks.laidMetH_plain _ _ _ (by kernel_rfl)]at hL;refine⟨?_,fun b h=>(by cases h),?_,?_⟩
 ·obtain⟨x,hx⟩:=XY.1 (show(((begin Tryz.prog (fun _ _=>0) default).world.heap[5]?).bind Obj.row?).isSome=true by kernel_rfl);obtain⟨cs,hh,_⟩:=hS.1 5 x.1 x.2 (X1 (by kernel_rfl)) hx;have hn:m8.n=6:=by show Tryz.prog.globals.size=6;kernel_rfl
  rw[hn];rcases Wl 5 W.heap.size with g|g
  ·exact g
  ·rw[Xe g]at hh;cases hh
 ·exact cell_of_shapedOpen_int (t:=3) (zero := #[.int .i64 0]) hS (X1 (by kernel_rfl)) (by kernel_rfl) rfl (by kernel_rfl) (by kernel_rfl) Tryz.underlying3
 ·have e:Rows.laid_internal_strconv_uint64pow10 (H:=Unit)=Lib.tabData .u64 Lib.pow10Tab:=by kernel_rfl
  refine Lib.tabIs_of_head (rest:=Rows.fnExactNextTaskRow.laid.drop 3) (g:=1) (t:=227) (e:=198) (n:=20) (by kernel_rfl) (by kernel_rfl) Tryz.underlying227 (by kernel_rfl) (by kernel_rfl) (by kernel_rfl) ?_;rw[←e];exact hL.tail.tail
set_option maxRecDepth 100000 in
theorem T3 (os:Os)(started:os.Started)(H:Type)(enc:TypeId×Value→H):
  ReturnsInHanded {} Tryz.checked os 3 .any (fun w args=>(Rows.fnExactNextTaskSpec.pre enc Tryz.prog Tryz.f3 Rows.fnExactNextTaskRow.domain false w args∧laidMetH Tryz.prog Rows.fnExactNextTaskRow.laid w)∧sizedMet enc Tryz.prog Tryz.f3 (OpenSpec.ofChange Rows.fnExactNextTaskSpec) false w args)
   (Rows.fnExactNextTaskSpec.post enc Tryz.prog Tryz.f3 false true false false):=by
 refine Ot (C:=Tryz.checked) (X:=fun w _=>laidMetH Tryz.prog Rows.fnExactNextTaskRow.laid w) (fun _ _ _ hh h=>h.of_heap hh) own started (by kernel_rfl) Tryz.func3
  (ChangeSpec.witness_shaped (enc:=enc) (C:=Tryz.checked) (os:=os) (X:=fun w _=>laidMetH Tryz.prog Rows.fnExactNextTaskRow.laid w) false (World.laidAll Tryz.prog os Rows.fnExactNextTaskRow.laid) #[.agg #[.slice none 0 0,.slice none 0 0,.slice none 0 0,.int .i64 0,.int .i64 0]] 8 (World.laidAll_os _ _ _)
   (World.shaped_of_ZipB (by kernel_rfl) (by kernel_rfl)) (by kernel_rfl) (by kernel_rfl) (by kernel_rfl)
   (by rw[MakeChecks.laidMetH_plain _ _ _ (by kernel_rfl)];exact laidMet_laidAll _ (by kernel_rfl) (by kernel_rfl))) ?_
 intro W base args ds gs before hval0 hW hL hS;have hB:=Td hS hL;have hval:∀(j:Nat) t v,Tryz.f3.params[j]?=some t→args[j]?=some v→Value.okWide Tryz.prog W .any base t v:=hval0;have hW':=hW;obtain⟨p,q,hA0,hV,rfl,hfz,hnd⟩:=hW;have hA:DataW.TrodAll enc Tryz.prog W 0 (fun _=>true) true Tryz.f3.params.toList args.toList ds p:=hA0;rw[Tryz.params3]at hA hval;have hlt:=hA.lt;obtain⟨v0,vs0,d0,ds0,p0,q0,hargs,rfl,rfl,h0,r0⟩:=trodAll_cons hA;obtain⟨rfl,rfl,rfl⟩:=trodAll_nil r0;obtain rfl:args = #[v0]:=by cases args;simp_all
 obtain⟨rfl,rfl⟩:=trodVars_none hV;have hok0:=hval 0 26 v0 rfl rfl;unfold Value.okWide at hok0;rw[Tryz.underlying26]at hok0;obtain⟨cs0,rfl,_,_⟩:=hok0;have h0k:=h0;obtain⟨n0,h0⟩:=h0;obtain⟨ts0,R0,S0,L0⟩:=Ty.open vP n0 26 _ _ (by kernel_rfl) h0;obtain⟨x0,e0,k0⟩:=MZ S0;clear hA0 hval0;refine(Ux (Fb x0 k0) hB (ad:=[.agg ts0]) (by simp only[Wv,WM,Sl.er,dz,aC];rw[e0]) (ArgsIn.cons (AOk.agg R0 (Shape.noLent vP _ S0)) (ArgsIn.nil W))).mono fun e W' ⟨he,bel⟩=>?_
 subst he;exact⟨_,rfl,_,_,_,[],_,[],hW',trodAll_mk1 (shut_bool Tryz.underlying4 _),(trodAll_cons_mk (Below.trod laid (by kernel_rfl) (X1 (by kernel_rfl)) h0k bel (fun x hx=>hlt x (by simp[hx]))) trodAll_mk0),rfl,bel.frame _,fun h=>by cases h⟩
theorem Uw:Rows.fnExactNextTaskRow.holds Tryz.pinned (OpenSpec.ofChange Rows.fnExactNextTaskSpec):=
 OpenClaim.holds_of_wide 3 Tryz.f3 rfl rfl rfl rfl rfl rfl rfl ⟨rfl,rfl,rfl,rfl,rfl⟩ rfl rfl rfl rfl rfl (by kernel_rfl) Tryz.func3 (by kernel_rfl)
  (X1 (by kernel_rfl)) (by unfold Func.isWrapper;first|(rw[Wa (by decide +kernel)];kernel_rfl)|(rw[Wo (by decide +kernel)];exact⟨rfl,rfl⟩))
  (fun os started H enc _=>T3 os started H enc)
theorem proved:Rows.FnExactNextTaskCardSaid :=
 Claim7.holds_tied_plain_at .later [] [.data, .data, .data, .data, .pinned] true (true, "a8588bb0a045296c49018467c1a76b4a18ef0f9157cca269b37de4ab3a2aaa5c") false Uw (fun _ h => by cases h) (by kernel_rfl) (fun _ h => by cases h) fnExactNextTask_row_tie rfl ⟨rfl, rfl⟩ (by kernel_rfl) rfl
  (fun f fn hf hfn=>by
   obtain rfl : f = 3 := X0 ((show Tryz.prog.funcNamed "loop.example/g00188/laws.FnExactNextTask" = some 3 by kernel_rfl).symm.trans hf) |>.symm;obtain rfl:fn=Tryz.f3:=(X0 (Tryz.func3.symm.trans hfn)).symm;exact⟨by kernel_rfl,fun j t ht=>by
    rw[Tryz.params3]at ht;have hm:t∈[26]:=by simpa using Array.mem_of_getElem? ht
    have hall:([26].all fun u => !Tryz.prog.wantsStandIn u)=true:=by kernel_rfl
    exact(show Tryz.prog.wantsStandIn t=false by simpa using Wt.1 hall t hm)⟩)
  (by kernel_rfl)
end Go.Proofs.YtjikhkndmohepaaGreatDoor.fnExactNextTask
namespace Go.Proofs.YtjikhkndmohepaaGreatDoor
theorem fnExactNextTask_holds:Rows.FnExactNextTaskCardSaid:=fnExactNextTask.proved
end Go.Proofs.YtjikhkndmohepaaGreatDoor
