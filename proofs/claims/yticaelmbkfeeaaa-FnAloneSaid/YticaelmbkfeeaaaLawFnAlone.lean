/- 'laws.FnAlone' returns true for every row of bytes. Conditions: none. -/
import Derived.Test.YticaelmbkfeeaaaNodes
import Derived.Test.YticaelmbkfeeaaaRows
import Derived.WalkKit
import Derived.ProofKit
import Derived.OpenShut
import Derived.ShutString
import Derived.ChangeOld
import Derived.Below
import Derived.SizedLaws
namespace Go.Proofs.Yticaelmbkfeeaaa.Am
open Go
set_option linter.unusedVariables false
set_option linter.unusedSimpArgs false
section
open Go.Proofs Classical
set_option maxRecDepth 100000
class Orr where
 i_NodeNew:Int→(List Int)→GNode×Bool
 h_i_NodeNew:∀(x0:Int)(x1:List Int),(fF x0 x1).isSome=true→Does E 8 [BJ x0,.one (BP 1 (x1.map etI))] [(true,BE .own ((i_NodeNew x0 x1).1)),BH ((i_NodeNew x0 x1).2)]
 i_Tick:GNode→Int→GNode×(List GMessage)×Bool
 h_i_Tick:∀(x0:GNode)(x1:Int),(jk x0 x1).isSome=true→Does E 9 [.agg (BE .far x0),BJ x1] [(true,BE .own ((i_Tick x0 x1).1)),(false,[BO 12 (((i_Tick x0 x1).2.1).map (BD .own))]),BH ((i_Tick x0 x1).2.2)]
 i_Propose:GNode→Int→Ej→GNode×(List GMessage)×Int×Bool
 h_i_Propose:∀(x0:GNode)(x1:Int)(x2:Ej),(cy x0 x1 x2).isSome=true→Does E 10 [.agg (BE .far x0),BJ x1,BL x2] [(true,BE .own ((i_Propose x0 x1 x2).1)),(false,[BO 12 (((i_Propose x0 x1 x2).2.1).map (BD .own))]),BG ((i_Propose x0 x1 x2).2.2.1),BH ((i_Propose x0 x1 x2).2.2.2)]
 s_ConfText:(List Int)→Ej×Bool
 h_s_ConfText:∀(x0:List Int),(cH x0).isSome=true→Does E 11 [.one (BP 1 (x0.map etI))] [BI ((s_ConfText x0).1),BH ((s_ConfText x0).2)]
 i_Settle:GNode→Int→GNode×Bool
 h_i_Settle:∀(x0:GNode)(x1:Int),(e8 x0 x1).isSome=true→Does E 12 [.agg (BE .far x0),BJ x1] [(true,BE .own ((i_Settle x0 x1).1)),BH ((i_Settle x0 x1).2)]
 i_ConfOf:GNode→(List Int)
 h_i_ConfOf:∀(x0:GNode),(ba x0).isSome=true→Does E 14 [.agg (BE .far x0)] [(false,[BO 1 ((i_ConfOf x0).map etI)])]
 i_ConfAt:GNode→Int→(List Int)
 h_i_ConfAt:∀(x0:GNode)(x1:Int),(dC x0 x1).isSome=true→Does E 15 [.agg (BE .far x0),BJ x1] [(false,[BO 1 ((i_ConfAt x0 x1).map etI)])]
 l_sameInts:(List Int)→(List Int)→Bool
 h_l_sameInts:∀(x0:List Int)(x1:List Int),(cF x0 x1).isSome=true→Does E 13 [.one (BP 1 (x0.map etI)),.one (BP 1 (x1.map etI))] [BH (l_sameInts x0 x1)]
 i_NodeOk:GNode→Bool
 h_i_NodeOk:∀(x0:GNode),(cE x0).isSome=true→Does E 16 [.agg (BE .far x0)] [BH (i_NodeOk x0)]
noncomputable abbrev orr:Orr:={ i_NodeNew:=ln,h_i_NodeNew:=ul,i_Tick:=mt,h_i_Tick:=xN,i_Propose:=gV,h_i_Propose:=um,s_ConfText:=kH,h_s_ConfText:=sB,i_Settle:=ms,h_i_Settle:=vC,i_ConfOf:=ai,h_i_ConfOf:=cA,i_ConfAt:=gI,h_i_ConfAt:=mb,l_sameInts:=nE,h_l_sameInts:=sA,i_NodeOk:=gJ,h_i_NodeOk:=bk }
abbrev wI (a:Int):Int:=IntKind.wrap .i64 ((1:Int)+(Int.tmod a 4))
noncomputable abbrev w0 [Orr](i:Int):=Orr.i_NodeNew i ([i])
noncomputable abbrev w1 [Orr](i:Int):=Orr.i_Tick (GNode.mk (((w0 i).1).f0) (((w0 i).1).f1) (((w0 i).1).f2) (((w0 i).1).f3) (((w0 i).1).f4) (((w0 i).1).f5) (((w0 i).1).f6) (((w0 i).1).f7) (((w0 i).1).f8) 1 (((w0 i).1).f10) (((w0 i).1).f11)) (5:Int)
noncomputable abbrev w2 [Orr](i:Int):=Orr.i_Propose ((w1 i).1) 3 (⟨#[115,111,109,101]⟩:Ej)
noncomputable abbrev w3 [Orr](i:Int):=Orr.s_ConfText ([inc (Int.tmod i 4),i])
noncomputable abbrev w4 [Orr](i:Int):=Orr.s_ConfText ([i,inc (Int.tmod i 4)])
noncomputable abbrev w5 [Orr](i:Int):=Orr.i_Propose ((w2 i).1) 2 ((w3 i).1)
noncomputable abbrev w6 [Orr](i:Int):=Orr.i_Propose ((w2 i).1) 2 ((w4 i).1)
noncomputable abbrev w7 [Orr](i:Int):=GNode.mk (((w0 i).1).f0) (((w0 i).1).f1) (((w0 i).1).f2) (((w0 i).1).f3) (((w0 i).1).f4) (((w0 i).1).f5) (((w0 i).1).f6) (((w0 i).1).f7) (((w0 i).1).f8) 1 (((w0 i).1).f10) (((w0 i).1).f11)
noncomputable abbrev w8 [Orr](i:Int):=Orr.s_ConfText ([i])
noncomputable abbrev w9 [Orr](i:Int):=Orr.i_Propose ((w5 i).1) 2 ((w8 i).1)
noncomputable abbrev w10 [Orr](i:Int):=Orr.i_Propose ((w6 i).1) 2 ((w8 i).1)
noncomputable abbrev w11 [Orr](i:Int):=Orr.i_Settle ((w5 i).1) (1:Int)
noncomputable abbrev w12 [Orr](i:Int):=Orr.i_Settle ((w6 i).1) (1:Int)
noncomputable abbrev w13 [Orr](i:Int):=Orr.i_ConfAt ((w5 i).1) (2:Int)
noncomputable abbrev w14 [Orr](i:Int):=Orr.i_ConfAt ((w6 i).1) (2:Int)
noncomputable abbrev w15 [Orr](i:Int):=Orr.i_ConfOf ((w5 i).1)
noncomputable abbrev w16 [Orr](i:Int):=Orr.i_ConfOf ((w6 i).1)
noncomputable def nV [Orr](i:Int):Option Bool :=if(fF i ([i])).isSome=true then cond ((w0 i).2) (if(jk (w7 i) 5).isSome=true then cond ((w1 i).2.2) (cond ((((w1 i).1).f3) != 2) (none) (cond ((((w1 i).1).f1) != 1) (none) (cond ((((w1 i).2.1).length:Int) != 0) (none) (cond ((((w1 i).1).f7) != 1) (none) (if(cy ((w1 i).1) 3 (⟨#[115,111,109,101]⟩:Ej)).isSome=true then cond ((w2 i).2.2.2) (cond (((w2 i).2.2.1) != 2) (none) (cond ((((w2 i).1).f7) != 2) (none) (cond (decide (i>(inc (Int.tmod i 4)))) (if(cH ([inc (Int.tmod i 4),i])).isSome=true then if(cy ((w2 i).1) 2 ((w3 i).1)).isSome=true then cond ((w5 i).2.2.2) (if(cH ([i])).isSome=true then if(cy ((w5 i).1) 2 ((w8 i).1)).isSome=true then cond ((w9 i).2.2.2) (none) (if(e8 ((w5 i).1) 1).isSome=true then cond ((((w5 i).1).f7)==(2:Int)) (cond ((((w5 i).2.1).length:Int)==(1:Int)) (cond ((w11 i).2) (if(ba ((w5 i).1)).isSome=true then if(cF (w15 i) ([inc (Int.tmod i 4),i])).isSome=true then cond (Orr.l_sameInts (w15 i) ([inc (Int.tmod i 4),i])) (if(dC ((w5 i).1) 2).isSome=true then if(cF (w13 i) ([i])).isSome=true then cond (Orr.l_sameInts (w13 i) ([i])) (if(cE ((w11 i).1)).isSome=true then cond (Orr.i_NodeOk ((w11 i).1)) (some (((((w11 i).1).f6).f0)==(1:Int))) (none)else none) (none)else none else none) (none)else none else none) (none)) (none)) (none)else none)else none else none) (none)else none else none) (if(cH ([i,inc (Int.tmod i 4)])).isSome=true then if(cy ((w2 i).1) 2 ((w4 i).1)).isSome=true then cond ((w6 i).2.2.2) (if(cH ([i])).isSome=true then if(cy ((w6 i).1) 2 ((w8 i).1)).isSome=true then cond ((w10 i).2.2.2) (none) (if(e8 ((w6 i).1) 1).isSome=true then cond ((((w6 i).1).f7)==(2:Int)) (cond ((((w6 i).2.1).length:Int)==(1:Int)) (cond ((w12 i).2) (if(ba ((w6 i).1)).isSome=true then if(cF (w16 i) ([i,inc (Int.tmod i 4)])).isSome=true then cond (Orr.l_sameInts (w16 i) ([i,inc (Int.tmod i 4)])) (if(dC ((w6 i).1) 2).isSome=true then if(cF (w14 i) ([i])).isSome=true then cond (Orr.l_sameInts (w14 i) ([i])) (if(cE ((w12 i).1)).isSome=true then cond (Orr.i_NodeOk ((w12 i).1)) (some (((((w12 i).1).f6).f0)==(1:Int))) (none)else none) (none)else none else none) (none)else none else none) (none)) (none)) (none)else none)else none else none) (none)else none else none)))) (none)else none))))) (none)else none) (none)else none
noncomputable def lk [Orr](a:List Int):Option (Bool):=cond (sk a) (some (true)) (if a.length≤1050000 then(dG (df a) 0).bind fun b=>nV (wI b)else none)
theorem uV [Orr](b:List Int):Ans (lk b) (fun r=>Does E 3 [.one (BP 1 (b.map etY))] [BH r]):=by
 unfold lk nV;apply Bv<;>intro t
 ·exact Bs (DP Try.f3 [rT] (AD (BA (qt b) t)<|AN))
 ·apply Bx;intro A;apply Bw;intro a B;apply Bx;intro D;apply Bv<;>intro F
  ·apply Bx;intro G;apply Bv<;>intro H
   ·apply Bv<;>intro I
    ·exact Ans.none
    ·apply Bv<;>intro J
     ·exact Ans.none
     ·apply Bv<;>intro K
      ·exact Ans.none
      ·apply Bv<;>intro m
       ·exact Ans.none
       ·apply Bx;intro n;apply Bv<;>intro o
        ·apply Bv<;>intro p
         ·exact Ans.none
         ·apply Bv<;>intro q
          ·exact Ans.none
          ·apply Bv<;>intro s
           ·apply Bx;intro c;apply Bx;intro d;apply Bv<;>intro e
            ·apply Bx;intro f;apply Bx;intro g;apply Bv<;>intro h
             ·exact Ans.none
             ·apply Bx;intro i;apply Bv<;>intro f1
              ·apply Bv<;>intro f2
               ·apply Bv<;>intro f3
                ·apply Bx;intro f4;apply Bx;intro f5;apply Bv<;>intro f6
                 ·apply Bx;intro f7;apply Bx;intro f8;apply Bv<;>intro f9
                  ·apply Bx;intro j;apply Bv<;>intro l
                   ·exact Bs (DP Try.f3 [rF,.ret [(false,[BO 1 ((df b).map etI)])],.row (etI a),.ret [(true,BE .own ((w0 (wI a)).1)),BH true],.ret [(true,BE .own ((w1 (wI a)).1)),(false,[BO 12 (((w1 (wI a)).2.1).map (BD .own))]),BH true],.b false,.b false,BM (((w1 (wI a)).2.1).length:Int),.b false,.b false,.ret [(true,BE .own ((w2 (wI a)).1)),(false,[BO 12 (((w2 (wI a)).2.1).map (BD .own))]),BG ((w2 (wI a)).2.2.1),BH true],.b false,.b false,.no,.no,.b true,.ret [BI ((w3 (wI a)).1),BH ((w3 (wI a)).2)],.ret [(true,BE .own ((w5 (wI a)).1)),(false,[BO 12 (((w5 (wI a)).2.1).map (BD .own))]),BG ((w5 (wI a)).2.2.1),BH true],.ret [BI ((w8 (wI a)).1),BH ((w8 (wI a)).2)],.ret [(true,BE .own ((w9 (wI a)).1)),(false,[BO 12 (((w9 (wI a)).2.1).map (BD .own))]),BG ((w9 (wI a)).2.2.1),BH false],.ret [(true,BE .own ((w11 (wI a)).1)),BH true],.b true,BM (((w5 (wI a)).2.1).length:Int),.b true,.ret [(false,[BO 1 ((w15 (wI a)).map etI)])],rT,.ret [(false,[BO 1 ((w13 (wI a)).map etI)])],rT,rT] (AD (BA (qt b) t)<|AD (lB b A)<|AG etI B<|AV (ψ:=fun k=>E.C k 8 [BJ (wI a),.one (BP 1 (((([wI a]).map etI).drop 0).take (([wI a]).map etI).length))]=some [(true,BE .own ((w0 (wI a)).1)),BH true]) (Bz (by simp only[Cb,Cg]) (By (Orr.h_i_NodeNew (wI a) ([wI a]) D) (by rw[F])))<|AD (By (rs':=[(true,BE .own ((w1 (wI a)).1)),(false,[BO 12 (((w1 (wI a)).2.1).map (BD .own))]),BH true]) (Orr.h_i_Tick (w7 (wI a)) 5 G) (by rw[H]))<|AC I<|AC J<|ALn ((w1 (wI a)).2.1) (BD .own)<|AC K<|AC m<|AD (By (rs':=[(true,BE .own ((w2 (wI a)).1)),(false,[BO 12 (((w2 (wI a)).2.1).map (BD .own))]),BG ((w2 (wI a)).2.2.1),BH true]) (Orr.h_i_Propose ((w1 (wI a)).1) 3 (⟨#[115,111,109,101]⟩:Ej) n) (by rw[o]))<|AC p<|AC q<|AC s<|AV (ψ:=fun k=>E.C k 11 [.one (BP 1 (((([inc (Int.tmod (wI a) 4),wI a]).map etI).drop 0).take (([inc (Int.tmod (wI a) 4),wI a]).map etI).length))]=some [BI ((w3 (wI a)).1),BH ((w3 (wI a)).2)]) (Bz (by simp only[Cb,Cg]) (Orr.h_s_ConfText ([inc (Int.tmod (wI a) 4),wI a]) c))<|AD (By (rs':=[(true,BE .own ((w5 (wI a)).1)),(false,[BO 12 (((w5 (wI a)).2.1).map (BD .own))]),BG ((w5 (wI a)).2.2.1),BH true]) (Orr.h_i_Propose ((w2 (wI a)).1) 2 ((w3 (wI a)).1) d) (by rw[e]))<|AV (ψ:=fun k=>E.C k 11 [.one (BP 1 (((([wI a]).map etI).drop 0).take (([wI a]).map etI).length))]=some [BI ((w8 (wI a)).1),BH ((w8 (wI a)).2)]) (Bz (by simp only[Cb,Cg]) (Orr.h_s_ConfText ([wI a]) f))<|AD (By (rs':=[(true,BE .own ((w9 (wI a)).1)),(false,[BO 12 (((w9 (wI a)).2.1).map (BD .own))]),BG ((w9 (wI a)).2.2.1),BH false]) (Orr.h_i_Propose ((w5 (wI a)).1) 2 ((w8 (wI a)).1) g) (by rw[h]))<|AD (By (rs':=[(true,BE .own ((w11 (wI a)).1)),BH true]) (Orr.h_i_Settle ((w5 (wI a)).1) 1 i) (by rw[f3]))<|AC f1<|ALn ((w5 (wI a)).2.1) (BD .own)<|AC f2<|AD (Orr.h_i_ConfOf ((w5 (wI a)).1) f4)<|AV (ψ:=fun k=>E.C k 13 [.one (BP 1 ((((w15 (wI a)).map etI).drop 0).take ((w15 (wI a)).map etI).length)),.one (BP 1 (((([inc (Int.tmod (wI a) 4),wI a]).map etI).drop 0).take (([inc (Int.tmod (wI a) 4),wI a]).map etI).length))]=some [BH true]) (Bz (by simp only[Cb,Cg]) (By (Orr.h_l_sameInts (w15 (wI a)) ([inc (Int.tmod (wI a) 4),wI a]) f5) (by rw[f6])))<|AD (Orr.h_i_ConfAt ((w5 (wI a)).1) 2 f7)<|AV (ψ:=fun k=>E.C k 13 [.one (BP 1 ((((w13 (wI a)).map etI).drop 0).take ((w13 (wI a)).map etI).length)),.one (BP 1 (((([wI a]).map etI).drop 0).take (([wI a]).map etI).length))]=some [BH true]) (Bz (by simp only[Cb,Cg]) (By (Orr.h_l_sameInts (w13 (wI a)) ([wI a]) f8) (by rw[f9])))<|AD (BA (Orr.h_i_NodeOk ((w11 (wI a)).1) j) l)<|AN))
                   ·exact Ans.none
                  ·exact Ans.none
                 ·exact Ans.none
                ·exact Ans.none
               ·exact Ans.none
              ·exact Ans.none
            ·exact Ans.none
           ·apply Bx;intro c;apply Bx;intro d;apply Bv<;>intro e
            ·apply Bx;intro f;apply Bx;intro g;apply Bv<;>intro h
             ·exact Ans.none
             ·apply Bx;intro i;apply Bv<;>intro f16
              ·apply Bv<;>intro u
               ·apply Bv<;>intro v
                ·apply Bx;intro w;apply Bx;intro x;apply Bv<;>intro y
                 ·apply Bx;intro z;apply Bx;intro f23;apply Bv<;>intro f24
                  ·apply Bx;intro j;apply Bv<;>intro l
                   ·exact Bs (DP Try.f3 [rF,.ret [(false,[BO 1 ((df b).map etI)])],.row (etI a),.ret [(true,BE .own ((w0 (wI a)).1)),BH true],.ret [(true,BE .own ((w1 (wI a)).1)),(false,[BO 12 (((w1 (wI a)).2.1).map (BD .own))]),BH true],.b false,.b false,BM (((w1 (wI a)).2.1).length:Int),.b false,.b false,.ret [(true,BE .own ((w2 (wI a)).1)),(false,[BO 12 (((w2 (wI a)).2.1).map (BD .own))]),BG ((w2 (wI a)).2.2.1),BH true],.b false,.b false,.no,.no,.b false,.ret [BI ((w4 (wI a)).1),BH ((w4 (wI a)).2)],.ret [(true,BE .own ((w6 (wI a)).1)),(false,[BO 12 (((w6 (wI a)).2.1).map (BD .own))]),BG ((w6 (wI a)).2.2.1),BH true],.ret [BI ((w8 (wI a)).1),BH ((w8 (wI a)).2)],.ret [(true,BE .own ((w10 (wI a)).1)),(false,[BO 12 (((w10 (wI a)).2.1).map (BD .own))]),BG ((w10 (wI a)).2.2.1),BH false],.ret [(true,BE .own ((w12 (wI a)).1)),BH true],.b true,BM (((w6 (wI a)).2.1).length:Int),.b true,.ret [(false,[BO 1 ((w16 (wI a)).map etI)])],rT,.ret [(false,[BO 1 ((w14 (wI a)).map etI)])],rT,rT] (AD (BA (qt b) t)<|AD (lB b A)<|AG etI B<|AV (ψ:=fun k=>E.C k 8 [BJ (wI a),.one (BP 1 (((([wI a]).map etI).drop 0).take (([wI a]).map etI).length))]=some [(true,BE .own ((w0 (wI a)).1)),BH true]) (Bz (by simp only[Cb,Cg]) (By (Orr.h_i_NodeNew (wI a) ([wI a]) D) (by rw[F])))<|AD (By (rs':=[(true,BE .own ((w1 (wI a)).1)),(false,[BO 12 (((w1 (wI a)).2.1).map (BD .own))]),BH true]) (Orr.h_i_Tick (w7 (wI a)) 5 G) (by rw[H]))<|AC I<|AC J<|ALn ((w1 (wI a)).2.1) (BD .own)<|AC K<|AC m<|AD (By (rs':=[(true,BE .own ((w2 (wI a)).1)),(false,[BO 12 (((w2 (wI a)).2.1).map (BD .own))]),BG ((w2 (wI a)).2.2.1),BH true]) (Orr.h_i_Propose ((w1 (wI a)).1) 3 (⟨#[115,111,109,101]⟩:Ej) n) (by rw[o]))<|AC p<|AC q<|AC s<|AV (ψ:=fun k=>E.C k 11 [.one (BP 1 (((([wI a,inc (Int.tmod (wI a) 4)]).map etI).drop 0).take (([wI a,inc (Int.tmod (wI a) 4)]).map etI).length))]=some [BI ((w4 (wI a)).1),BH ((w4 (wI a)).2)]) (Bz (by simp only[Cb,Cg]) (Orr.h_s_ConfText ([wI a,inc (Int.tmod (wI a) 4)]) c))<|AD (By (rs':=[(true,BE .own ((w6 (wI a)).1)),(false,[BO 12 (((w6 (wI a)).2.1).map (BD .own))]),BG ((w6 (wI a)).2.2.1),BH true]) (Orr.h_i_Propose ((w2 (wI a)).1) 2 ((w4 (wI a)).1) d) (by rw[e]))<|AV (ψ:=fun k=>E.C k 11 [.one (BP 1 (((([wI a]).map etI).drop 0).take (([wI a]).map etI).length))]=some [BI ((w8 (wI a)).1),BH ((w8 (wI a)).2)]) (Bz (by simp only[Cb,Cg]) (Orr.h_s_ConfText ([wI a]) f))<|AD (By (rs':=[(true,BE .own ((w10 (wI a)).1)),(false,[BO 12 (((w10 (wI a)).2.1).map (BD .own))]),BG ((w10 (wI a)).2.2.1),BH false]) (Orr.h_i_Propose ((w6 (wI a)).1) 2 ((w8 (wI a)).1) g) (by rw[h]))<|AD (By (rs':=[(true,BE .own ((w12 (wI a)).1)),BH true]) (Orr.h_i_Settle ((w6 (wI a)).1) 1 i) (by rw[v]))<|AC f16<|ALn ((w6 (wI a)).2.1) (BD .own)<|AC u<|AD (Orr.h_i_ConfOf ((w6 (wI a)).1) w)<|AV (ψ:=fun k=>E.C k 13 [.one (BP 1 ((((w16 (wI a)).map etI).drop 0).take ((w16 (wI a)).map etI).length)),.one (BP 1 (((([wI a,inc (Int.tmod (wI a) 4)]).map etI).drop 0).take (([wI a,inc (Int.tmod (wI a) 4)]).map etI).length))]=some [BH true]) (Bz (by simp only[Cb,Cg]) (By (Orr.h_l_sameInts (w16 (wI a)) ([wI a,inc (Int.tmod (wI a) 4)]) x) (by rw[y])))<|AD (Orr.h_i_ConfAt ((w6 (wI a)).1) 2 z)<|AV (ψ:=fun k=>E.C k 13 [.one (BP 1 ((((w14 (wI a)).map etI).drop 0).take ((w14 (wI a)).map etI).length)),.one (BP 1 (((([wI a]).map etI).drop 0).take (([wI a]).map etI).length))]=some [BH true]) (Bz (by simp only[Cb,Cg]) (By (Orr.h_l_sameInts (w14 (wI a)) ([wI a]) f23) (by rw[f24])))<|AD (BA (Orr.h_i_NodeOk ((w12 (wI a)).1) j) l)<|AN))
                   ·exact Ans.none
                  ·exact Ans.none
                 ·exact Ans.none
                ·exact Ans.none
               ·exact Ans.none
              ·exact Ans.none
            ·exact Ans.none
        ·exact Ans.none
   ·exact Ans.none
  ·exact Ans.none
theorem zA:@nV orr 1=some true:=by kernel_rfl
theorem zB:@nV orr 2=some true:=by kernel_rfl
theorem zC:@nV orr 3=some true:=by kernel_rfl
theorem zD:@nV orr 4=some true:=by kernel_rfl
theorem rH (b:List Int):Does E 3 [.one (BP 1 (b.map etY))] [BH true]:=by
 exact @uV orr b _ (by
  unfold lk;cases q:sk b with
  |true=>rfl
  |false =>
   have e:b.length≤1050000:=by unfold sk at q;have:=of_decide_eq_false q;omega
   obtain⟨-,m,f⟩:=mF b e;obtain⟨g,h,c⟩:=vr (l:=df b) (k:=0) (by omega);have d:=f g c;rw[Eb,BZ e,h,BU];have o:=qU (a:=g) (n:=4) d.1 (by omega);have hi:1≤wI g∧wI g≤4:=by show 1≤IntKind.wrap .i64 (1+Int.tmod g 4)∧IntKind.wrap .i64 (1+Int.tmod g 4)≤4;rw[fO _ (by omega) (by omega)];omega
   generalize wI g=i at *;have j:i=1∨i=2∨i=3∨i=4:=by omega
   rcases j with rfl|rfl|rfl|rfl
   ·exact zA
   ·exact zB
   ·exact zC
   ·exact zD)
end
end Go.Proofs.Yticaelmbkfeeaaa.Am
namespace Go.Proofs.Yticaelmbkfeeaaa.fnAlone
open Go.ChangeShapes Go.WideShapes Go.ChangeAt Go.RowKit Go.Proofs.Yticaelmbkfeeaaa.Am
open Go.ChangeMaps (open_string shut_string)
set_option linter.unusedVariables false
set_option linter.unusedSimpArgs false
theorem own:ownKnob Try.prog.godebug=none:=by kernel_rfl
theorem zX:laidOutB Try.prog=true:=by kernel_rfl
theorem tW {α:Type}{enc:α→List (T Unit)}{B:α→Prop}:∀(rows:List (List DT)),(∀r∈rows,∃x,erL r=enc x∧B x)→∃l:List α,rows.map erL=l.map enc∧l.length=rows.length∧∀y∈l,B y
 |[],_=>⟨[],rfl,rfl,fun y h=>by cases h⟩
 |r::rs,h=>by
  obtain⟨x,h1,h2⟩:=h r (by simp);obtain⟨l,g1,g2,g3⟩:=tW rs fun q hq=>h q (by simp[hq])
  refine⟨x::l,by simp only[Cc,h1,g1],by simp[g2],fun y hy=>?_⟩;rcases Cq.1 hy with rfl|hy
  ·exact h2
  ·exact g3 y hy
set_option maxRecDepth 100000 in
theorem zF (os:Os)(started:os.Started)(H:Type)(enc:TypeId×Value→H):
  ReturnsInHanded {} Try.checked os 3 .any (Rows.fnAloneSpec.pre6 enc Try.prog Try.f3 Rows.fnAloneRow.domain false) (Rows.fnAloneSpec.post enc Try.prog Try.f3 false true false false):=by
 refine returnsInHanded_of_change_sized (C:=Try.checked) own started (by kernel_rfl) Try.func3
  (ChangeSpec.witness6 (enc:=enc) (C:=Try.checked) false ⟨#[], #[.slice none 0 0],[]⟩ 8 (by kernel_rfl) (by kernel_rfl) (by kernel_rfl) (by kernel_rfl)) ?_
 intro W base args ds gs before hval0 hW hcnd hsz0 _;have hval:∀(j:Nat) t v,Try.f3.params[j]?=some t→args[j]?=some v→Value.okWide Try.prog W .any base t v:=hval0;have hW':=hW;obtain⟨p,q,hA0,hV,rfl,hfz,hnd⟩:=hW;have hA:DataW.TrodAll enc Try.prog W 0 (fun _=>true) true Try.f3.params.toList args.toList ds p:=hA0;rw[Try.params3]at hA hval;have hlt:=hA.lt;obtain⟨v0,vs0,d0,ds0,p0,q0,hargs,rfl,rfl,h0,r0⟩:=trodAll_cons hA;obtain⟨rfl,rfl,rfl⟩:=trodAll_nil r0;obtain rfl:args = #[v0]:=by cases args;simp_all
 obtain⟨rfl,rfl⟩:=trodVars_none hV;have hok0:=hval 0 22 v0 rfl rfl;obtain⟨sp0,sn0,sc0,rfl⟩:∃p n c,v0 = .slice p n c:=by unfold Value.okWide at hok0;rw[Try.underlying22]at hok0;cases v0<;>first|exact⟨_,_,_,rfl⟩|(exfalso;revert hok0;simp[Cell.okWide,Cell.ok,Try.underlying22])
 have h0k:=h0;obtain⟨n0,h0⟩:=h0;obtain⟨ts0,R0,S0,L0⟩:=Ty.open (.slice (.int .u8)) n0 22 _ _ (by kernel_rfl) h0;simp only[Shape]at S0;obtain⟨sd0,sr0,rfl,sk0,sa0⟩:=S0;obtain⟨x0,e0,b0,k0⟩:=tW (enc:=etY) (B:=Wf.wf) sr0 (fun r hr=>(by obtain⟨n,rfl,hn⟩:=sa0 r hr;exact⟨n,rfl,trivial⟩));clear hA0 hval0 hsz0;refine(zZ (rH x0) (ad:=[.one (.s .far sd0 _ sr0)]) (by simp only[Cc,Cu,Sl.er,ca,ak];rw[e0];rfl) (ArgsIn.cons (AOk.one (t := .s .far sd0 _ sr0) R0 rfl) (ArgsIn.nil W))).mono fun e W' ⟨he,bel⟩=>?_
 subst he;exact⟨_,rfl,_,_,_,[],_,[],hW',trodAll_mk1 (shut_bool Try.underlying4 _),(trodAll_cons_mk (Below.trod zX (by kernel_rfl) (Dz (by kernel_rfl)) h0k bel (fun x hx=>hlt x (by simp[hx]))) trodAll_mk0),rfl,bel.frame _,fun h=>by cases h⟩
theorem zY:Rows.fnAloneRow.holds Try.pinned (OpenSpec.ofChange Rows.fnAloneSpec):=
 OpenClaim.holds_of_wide 3 Try.f3 rfl rfl rfl rfl rfl rfl rfl ⟨rfl,rfl,rfl,rfl,rfl⟩ rfl rfl rfl rfl rfl (by kernel_rfl) Try.func3 (by kernel_rfl)
  (Dz (by kernel_rfl)) (by unfold Func.isWrapper;first|(rw[BZ (by decide +kernel)];kernel_rfl)|(rw[Cd (by decide +kernel)];exact⟨rfl,rfl⟩))
  (fun os started H enc _=>zF os started H enc)
theorem proved:Rows.FnAloneSaid:=zY
end Go.Proofs.Yticaelmbkfeeaaa.fnAlone
namespace Go.Proofs.Yticaelmbkfeeaaa
theorem fnAlone_holds:Rows.FnAloneSaid:=fnAlone.proved
end Go.Proofs.Yticaelmbkfeeaaa
