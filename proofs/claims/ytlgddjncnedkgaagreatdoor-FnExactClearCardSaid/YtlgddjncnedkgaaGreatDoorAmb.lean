/- An abstract machine over trees, and that its steps are sound, a part. Conditions: none. -/
import Derived.Test.YtlgddjncnedkgaaGreatDoorAma
import Derived.Laws.BytesArg
import Derived.Laws.IdiomStrings
import Derived.Orders
namespace Go.Proofs.YtlgddjncnedkgaaGreatDoor.Am
open Go
set_option linter.unusedVariables false
set_option linter.unusedSimpArgs false
variable{w w':World}{cx:Cx}{D D' D1:DSt}{P:List (DT×Value)}{tm:Array Value}{a:Act}{t z h:Nat}{y:Value}{caps:List ((Nat×Nat)×List DT)}{bx l:List Nat}{Q:Exit→Act→World→Prop}{f:FuncId}{ys:List Value}{st:List (Nat×Nat)}{u:DT}{ad as:List DSl}{xs:List Operand}{d:Dec}{r:Bool×List DT}{ops:Array Oper}{p:Nat→Nat→Bool}{tk:Nat→Bool}
section
variable  {δ β : Type}
def yR (M:Mk δ β)(D:St δ β)(b:Bool)(x:Operand):Option (Nat×List (List (T δ))×St δ β):=
 match b with
 |true =>
  match cellsCopy M D x with
  |some (false,[.s _ _ z2 a])=>if a.all (fun r=>r.all T.flat)=true then some (z2,a,D)else none
  |_=>none
 |false =>
  match cellsTake M D x with
  |some (false,[.s .own _ z2 a],c)=>some (z2,a,c)
  |_=>none
def mV (M:Mk δ β)(F:nv δ β)(tab:Tab)(D:St δ β)(dst:Option Nat)(t t2:Nat)(s x:Operand):Option (St δ β):=
 match tab.ti t,tab.ti t2,dst,cellsTake M D s with
 |some ⟨_,_,_,.slice e⟩,some ⟨_,_,_,.slice _⟩,some c,some (false,[.s .own d z rows],D1)=>
  match tab.ti e with
  |some b =>
   match yR M D1 (b.zero.all T.flat) x with
   |some (z2,a,f)=>
    if c<f.length∧b.size=z∧b.size≠0∧b.zero.length=b.size∧z2=z then
     if(rows.length+a.length)*b.bytes≤140737488355328∧rows.length+a.length≤4611686018427387904 then
      some (bj f (some c) (.one (.s .own (F.app d rows.length a.length e) z (rows++a))))
     else none
    else none
   |none=>none
  |none=>none
 |_,_,_,_=>none
end
theorem OF {t:DT}(h:t.flat=true):bl t=[]:=by
 cases t with
 |v x=>rfl
 |any=>rfl
 |s k d z r=>cases h
theorem KI {t:DT}(h:t.flat=true):OwnT w t∧Holds w t:=by
 cases t with
 |v x=>exact⟨.v x,.v x⟩
 |any=>exact⟨.any,.any⟩
 |s k d z r=>cases h
theorem O9 {r:DSt}{t:List (DT×Value)}(I:Inv cx D t a.tmps w){y:Bool}{x:Operand}{z2:Nat}{c:List (List DT)}(e:yR mkD D y x=some (z2,c,r)):
  ∃l k m,Inv cx r (m++t) a.tmps w∧VT (.s l k z2 c) (a.eval x)∧Holds w (.s l k z2 c)∧(∀(i:Nat)(row:List DT)(j:Nat)(u:DT),c[i]?=some row→row[j]?=some u→OwnT w u) ∧
   ∀b,(c.flatMap (fun x=>x.flatMap bl)).count b≤bc m b:=by
 unfold yR at e;split at e
 ·split at e
  case h_2=>cases e
  rename_i l k n g o;split at e
  case isFalse=>cases e
  rename_i d;cases e;obtain⟨p,h,f⟩:=I.cellsCopy o;simp only[cy,W2,Xs]at f;subst f;refine⟨l,k,[],I,h.v.2 0 _ _ rfl rfl,h.holds _ (Xe _),fun i row j u h1 h2=>(KI (WS.1 (WS.1 d row (WC h1)) u (WC h2))).1,fun b=>?_⟩;have:c.flatMap (fun x=>x.flatMap bl)=[]:=by rw[WY];intro row z;rw[WY];intro u A;exact OF (WS.1 (WS.1 d row z) u A)
  rw[this];simp
 ·split at e
  case h_2=>cases e
  rename_i k n g B o;cases e;obtain⟨p,m,C,h,f⟩:=I.cellsTakeP o;simp only[cy,W2,Xs]at f;subst f;have F:=h.own _ (Xe _) rfl;refine⟨.own,k,m,C,h.v.2 0 _ _ rfl rfl,h.holds _ (Xe _),fun i row j u h1 h2=>?_,fun b=>?_⟩
  ·cases F with
   |nil=>simp at h1
   |s _ _ _ _ _ _ _ _ _ _ _ _ _ q=>exact q i row j u h1 h2
  ·have:=h.cnt b;simp only[W1,Yr,WX,ownR,T.isOwn,W8,cS,W3]at this;omega
theorem Kf {P:Program}{tab:Tab}(ok:bz P tab)(I:Inv cx D [] a.tmps w){dst:Option Nat}{t2 ty:Nat}{s x:Operand}(e:mV mkD (frD w) tab D dst t t2 s x=some D'):∃y w',(Builtin.append_ #[t,t2] ty #[a.eval s,a.eval x]).run P w = .ok y w'∧Inv cx D' [] (a.put dst y).tmps w':=by
 unfold mV at e;split at e
 case h_2=>cases e
 rename_i _ _ _ M _ _ _ el2 d' d z rows D1 hti hti2 hs;split at e
 case h_2=>cases e
 rename_i n hte;split at e
 case h_2=>cases e
 rename_i z2 f D2 hx;split at e
 case isFalse=>cases e
 rename_i hc;split at e
 case isFalse=>cases e
 rename_i hn;cases e;obtain⟨hd,rfl,hz0,hzl,rfl⟩:=hc;obtain⟨Z2,h63⟩:=hn;obtain⟨ys,Pd0,I0,G,hv⟩:=I.cellsTake hs;obtain⟨k2,d2,P2,I1,hy2,hH2,S,hcnt2⟩:=O9 I0 hx;have K:=gM (Tab.ok ok hti) rfl;have hu2:=gM (Tab.ok ok hti2) rfl;obtain⟨i,dd,zv,g1,g2',g3',g4,g5,g2,g7,g3⟩:=iq (Tab.ok ok hte);have hzs:zv.cells.size=n.size:=by rw[←hzl,g2];simp[en]
 simp only[cy,W2,Xs]at hv;subst hv;have hy:VT (.s .own d n.size rows) (a.eval s):=G.v.2 0 _ _ rfl rfl;have hH:=G.holds _ (Xe _);have hO:=G.own _ (Xe _) rfl;have hcnt0:∀b,(bl (.s .own d n.size rows:DT)).count b≤bc Pd0 b:=fun b=>by have:=G.cnt b;simpa[ownR,T.isOwn]using this
 generalize hPd:P2++Pd0=Pd at I1;have N:∀b,(bl (.s .own d n.size rows:DT)).count b+(f.flatMap (fun x=>x.flatMap bl)).count b≤bc Pd b:=fun b=>by have h1:=hcnt0 b;have h2:=hcnt2 b;rw[←hPd,jr,Y7 (bc P2 b)];exact Nat.add_le_add h1 h2
 obtain⟨C,R1,o1,c1⟩:=hH.cells (by omega);obtain⟨l,R2,o2,c2⟩:=hH2.cells (by omega);have O:∀(i:Nat)(row:List DT)(j:Nat)(u:DT),f[i]?=some row→row[j]?=some u→Holds w u:=fun i row j u h1 h2=>by
  cases hH2 with
  |e=>simp at h1
  |s _ _ _ _ _ _ c' e' f' H _ _ Z3 U=>exact U i row j u h1 h2
 have V:a.eval s = .slice d.addr rows.length d.cap:=hy;have hexx:a.eval x = .slice d2.addr f.length d2.cap:=hy2;have hnl:l.length=f.length*i.size:=by rw[g4];exact R2.len
 have src:∀w0:World,(∀a,w0.cell? a=w.cell? a)→Src P i.size t2 (a.eval x) f.length l w0:=by
  intro w0 hw0;rw[hexx];rcases c2 with⟨rfl,rfl⟩|⟨q1,W,q3⟩
  ·cases J:d2.addr with
   |none=>exact Src.ofNil w0 hu2 d2.cap
   |some ad=>exact Src.ofSlice w0 hu2 ad 0 d2.cap [] (by simp) (fun j u h=>by simp at h) (fun u h=>by cases h)
  ·have J:d2.addr=some ⟨d2.b,d2.o,none⟩:=by rw[Dec.addr_none W,q1];rfl
   rw[J];exact Src.ofSlice w0 hu2 _ _ _ l hnl (fun j u h=>by rw[hw0,Addr.add_lit];exact q3 j u h) o2
 have hS:=src w (fun _=>rfl);by_cases hroom:rows.length+f.length≤d.cap
 ·
  have X:(frD w).app d rows.length f.length M=d:=by simp only[frD];rw[Wz hroom]
  rw[X];cases hO with
  |nil _ _ F hsp hcap =>
   rw[hcap]at hroom;have h2:f=[]:=XH.1 (by have h:=hroom;rw[Zu]at h;omega);subst h2;have hnews:l=[]:=XH.1 (by rw[R2.len];simp);subst hnews;have J:d.addr=none:=by rw[Dec.addr_none hsp,F];rfl
   refine⟨a.eval s,w,?_,?_⟩
   ·rw[V,J,hcap];have hk:=hS.kind;have hc0:(Builtin.firstCells i.size 0 (a.eval x)).run P w = .ok #[] w:=by simpa using hS.cells
    rcases hk with⟨e',hk⟩|hk <;>
     simp[Builtin.append_,run_underlying K,run_underlying hk,sizeOf,typeInfo,g1,hS.len,hc0]
   ·have hG:Got cx D2 w Pd [(.s .own d n.size []:DT)] [a.eval s]:=⟨G.v,G.holds,G.own,fun u K=>by rw[WG]at K;subst K;trivial,fun b=>by
     have h1:=G.cnt b;have h3:bc Pd b=bc P2 b+bc Pd0 b:=by rw[←hPd,jr]
     omega⟩
    exact I1.putGot (g:=false) (s := .one (.s .own d n.size ([]++[]))) hG (by simp[cy]) rfl (fun t' h=>by cases h;exact hd) rfl
  |s _ _ _ F hsp c ec lo hi hb hcap Z4 hfr hho =>
   have J:d.addr=some ⟨d.b,d.o,none⟩:=by rw[Dec.addr_none hsp,F];rfl
   have hle:(rows.length+f.length)*n.size≤d.cap*n.size:=XN _ hroom;rw[X0]at hle;have hnl':l.length=f.length*n.size:=R2.len;have Q:d.o+rows.length*n.size+l.length≤c.size:=by omega
   have r:=run_append_room_src (P:=P) w t t2 ty M i K g1 d.b d.o rows.length d.cap (a.eval x) f.length l hS hroom
    (fun j hj=>by rw[ux hb,g4,Xg (by omega)];rfl)
    (fun j hj=>by have hx:=hfr (d.o+rows.length*n.size+j) (by omega) (by omega);rw[g4];simp only[World.frozen?,hb];simp;omega)
   rw[←J, ←V,g4]at r;obtain⟨f1,f2,f3,f4,f5,f6⟩:=ls d.b ec (lo,hi) l (d.o+rows.length*n.size) w c hb Q;generalize hw':w.setCells d.b (d.o+rows.length*n.size) l=w' at r f1 f2 f3 f4 f5 f6;have Z8:d.b∈bl (.s .own d n.size rows:DT):=mv F;have hB:0<bc Pd d.b:=Xf (WW.2 Z8) (by have:=N d.b;omega);have hone:(bl (.s .own d n.size rows:DT)).count d.b+(f.flatMap (fun x=>x.flatMap bl)).count d.b≤1:=Xu (N d.b) (by have:=I1.once d.b;omega);have Z5:∀(m:Nat)(A:List DT)(j:Nat)(u:DT),rows[m]?=some A→A[j]?=some u→d.b∉bl u:=by intro m A j u h1 h2 hm;have q1:=JV (k := .own) (d:=d) (z:=n.size) h1 h2 d.b;rw[F]at q1;simp only[W2,Xs]at q1;have q3:0<(bl u).count d.b:=WW.2 hm;simp at q1;omega
   have Y:∀(m:Nat)(A:List DT)(j:Nat)(u:DT),f[m]?=some A→A[j]?=some u→d.b∉bl u:=by intro m A j u h1 h2 hm;have q0:0<(bl (.s .own d n.size rows:DT)).count d.b:=WW.2 Z8;have q1:0<(f.flatMap (fun x=>x.flatMap bl)).count d.b:=WW.2 (WP.2 ⟨A,WC h1,WP.2 ⟨u,WC h2,hm⟩⟩);omega
   have gx:JU d.b w w':=⟨f4,f5,f6,by omega,fun b H _=>f2 b H⟩
   have hcl:d.o+rows.length*n.size+l.length≤c.toList.length:=by simpa using Q
   have Z:∀(m:Nat)(row:List DT),(rows++f)[m]?=some row→row.length=n.size:=fun m row h=>(R1.append R2).row m row h
   have Z0:∀(m:Nat)(row:List DT)(j:Nat)(u:DT),(rows++f)[m]?=some row→row[j]?=some u →
     (rows[m]?=some row∧m<rows.length)∨(f[m-rows.length]?=some row∧rows.length≤m):=by
    intro m row j u h1 h2;rcases WI m rows.length with q|q
    ·rw[Xr q]at h1;exact .inl ⟨h1,q⟩
    ·rw[Xp q]at h1;exact .inr ⟨h1,q⟩
   have hval:∀(m:Nat)(row:List DT)(j:Nat)(u:DT),(rows++f)[m]?=some row→row[j]?=some u→∃y,((au c.toList (d.o+rows.length*n.size) l).toArray)[d.o+m*n.size+j]?=some y∧VT u y:=by
    intro m row j u h1 h2;have hjz:j<n.size:=by
     have:=Z m row h1;rcases WI j row.length with q|q
     ·omega
     ·rw[WF q]at h2;cases h2
    simp only[YJ];rcases Z0 m row j u h1 h2 with⟨q1,W⟩|⟨q1,W⟩
    ·have hlt:=qf W hjz;cases hH with
     |e=>simp at W
     |s _ _ _ _ _ _ c' e' f' H _ _ Z3 _ =>rw[hb]at H;cases H;obtain⟨y,y1,y2⟩:=Z3 m row j u q1 h2;refine⟨y,?_,y2⟩;rw[mc hcl (by omega)];simpa using y1
    ·obtain⟨y,y1,y2⟩:=R2.val _ row j u q1 h2;refine⟨y,?_,y2⟩;have e1:(m-rows.length)*n.size=m*n.size-rows.length*n.size:=Nat.sub_mul _ _ _;have e2:rows.length*n.size≤m*n.size:=XN _ W;have hlt:m*n.size-rows.length*n.size+j<l.length:=by
      rcases WI ((m-rows.length)*n.size+j) l.length with p|p
      ·omega
      ·rw[WF p]at y1;cases y1
     rw[eV hcl,WM (by omega),Wz (by omega)];rw[show d.o+m*n.size+j-(d.o+rows.length*n.size)=(m-rows.length)*n.size+j by omega];exact y1
   have B:∀u:DT,d.b∉bl u→∀b∈bl u,b<w.heap.size→w'.heap[b]?=w.heap[b]?:=fun u K b H _=>f2 b (fun e=>K (e ▸ H))
   have L:∀(m:Nat)(row:List DT)(j:Nat)(u:DT),(rows++f)[m]?=some row→row[j]?=some u→Holds w' u∧OwnT w' u:=by
    intro m row j u h1 h2;rcases Z0 m row j u h1 h2 with⟨q1,W⟩|⟨q1,W⟩
    ·have Z1:=Z5 m row j u q1 h2;refine⟨?_,(hho m row j u q1 h2).frame (B u Z1)⟩;cases hH with
     |e=>simp at W
     |s _ _ _ _ _ _ c' e' f' H _ _ Z3 U=>exact(U m row j u q1 h2).frame (B u Z1)
    ·have Z1:=Y _ row j u q1 h2;exact⟨(O _ row j u q1 h2).frame (B u Z1),(S _ row j u q1 h2).frame (B u Z1)⟩
   have Z6:Holds w' (.s .own d n.size (rows++f)):= .s _ _ _ _ F hsp _ ec (lo,hi) f1 (by simpa using hroom) Z hval (fun m row j u h1 h2=>(L m row j u h1 h2).1);have Z7:OwnT w' (.s .own d n.size (rows++f)):= .s _ _ _ F hsp _ ec lo hi f1 (by simpa using hroom) (by simp only[Zn];rw[mb hcl];simpa using Z4) hfr (fun m row j u h1 h2=>(L m row j u h1 h2).2);have hVT:VT (.s .own d n.size (rows++f)) (.slice d.addr (rows.length+f.length) d.cap):=by simp[VT]
   have hcnt':∀b,(bl (.s .own d n.size (rows++f):DT)).count b≤bc Pd b:=fun b=>by have:=N b;rw[cS,W3]at this ⊢;rw[XR,W3, ←XZ];exact this
   have I2:=I1.pendWrite (P:=Pd) hB gx hVT Z6 Z7 rfl hcnt';refine⟨_,w',r,?_⟩;refine I2.putGot (g:=false) (ts:=[.s .own d n.size (rows++f)]) (ys:=[.slice d.addr (rows.length+f.length) d.cap]) ⟨.one hVT,fun u K=>?_,fun u K _=>?_,fun u K=>?_,fun b=>?_⟩ (by simp[cy]) rfl (fun t' h=>by cases h;exact hd) rfl
   ·rw[WG]at K;subst K;exact Z6
   ·rw[WG]at K;subst K;exact Z7
   ·rw[WG]at K;subst K;trivial
   ·simp[bc]
 ·
  have X:(frD w).app d rows.length f.length M=⟨w.heap.size,0,grownCap w (rows.length+f.length) d.cap M,false,none⟩:=by simp only[frD];rw[WM hroom]
  rw[X];have Q:=growslice_fits (need:=rows.length+f.length) (old:=d.cap) (bytes:=n.bytes) (by omega) Z2;have hold:(Builtin.firstCells i.size rows.length (.slice d.addr rows.length d.cap)).run P w.drew = .ok C.toArray w.drew:=by
   rcases c1 with⟨rfl,rfl⟩|⟨q1,W,q3⟩
   ·cases J:d.addr with
    |none=>exact run_firstCells_none w.drew _ _ _ _
    |some ad=>exact run_firstCells_some w.drew i.size 0 ad 0 d.cap [] (by simp) (fun j u h=>by simp at h)
   ·have J:d.addr=some ⟨d.b,d.o,none⟩:=by rw[Dec.addr_none W,q1];rfl
    rw[J];exact run_firstCells_some w.drew i.size rows.length _ _ _ C (by rw[g4];exact R1.len) (fun j u h=>by rw[Addr.add_lit];exact q3 j u h)
  have r:=run_append_grow_src (P:=P) w t t2 ty M i zv K g1 g3' d.addr rows.length d.cap C hold (a.eval x) f.length l hS (by omega) (by omega) (by rw[g5];exact Q);rw[←V]at r;have hge:=grownCap_ge w (rows.length+f.length) d.cap M;generalize hgc:grownCap w (rows.length+f.length) d.cap M=gc at r hge;have R:=R1.append R2;generalize hcs:(C++l).toArray++Builtin.zeroCells zv.cells (gc-(rows.length+f.length))=cells at r;have hsize:cells.size=gc*n.size:=by rw[←hcs,Array.size_append,size_zeroCells,hzs,Zn,R.len, ←X0];congr 1;simp;omega
  have g:=(Grew.drew w).trans (Grew.alloc w.drew (.cells cells M));have Z9:(w.drew.alloc (.cells cells M)).heap[w.heap.size]?=some (.cells cells M (0,0)):=by show(w.heap.push _)[w.heap.size]?=_;simp
  have hcell:∀(j:Nat)(u:Value),(C++l)[j]?=some u→cells[j]?=some u:=by
   intro j u h;have hlt:j<(C++l).length:=by
    rcases WI j (C++l).length with q|q
    ·exact q
    ·rw[WF q]at h;cases h
   rw[←hcs,Yg (by simpa using hlt)];simpa using h
  have L:∀(m:Nat)(row:List DT)(j:Nat)(u:DT),(rows++f)[m]?=some row→row[j]?=some u→Holds (w.drew.alloc (.cells cells M)) u∧OwnT (w.drew.alloc (.cells cells M)) u:=by
   intro m row j u h1 h2;rcases WI m rows.length with q|q
   ·rw[Xr q]at h1;refine⟨?_,?_⟩
    ·cases hH with
     |e=>simp at q
     |s _ _ _ _ _ _ c' e' f' H _ _ Z3 U=>exact(U m row j u h1 h2).frame fun b _ hb=>g.same b hb
    ·cases hO with
     |nil=>simp at q
     |s _ _ _ _ _ _ _ _ _ _ _ _ _ hho=>exact(hho m row j u h1 h2).frame fun b _ hb=>g.same b hb
   ·rw[Xp q]at h1;exact⟨(O _ row j u h1 h2).frame fun b _ hb=>g.same b hb,(S _ row j u h1 h2).frame fun b _ hb=>g.same b hb⟩
  have Z6:Holds (w.drew.alloc (.cells cells M)) (.s .own ⟨w.heap.size,0,gc,false,none⟩ n.size (rows++f)):=by refine .s _ _ _ _ rfl rfl _ M (0,0) Z9 (by simpa using hge) R.row (fun m row j u h1 h2=>?_) (fun m row j u h1 h2=>(L m row j u h1 h2).1);obtain⟨y,y1,y2⟩:=R.val m row j u h1 h2;exact⟨y,by simpa using hcell _ _ y1,y2⟩
  have Z7:OwnT (w.drew.alloc (.cells cells M)) (.s .own ⟨w.heap.size,0,gc,false,none⟩ n.size (rows++f)):=
   .s _ _ _ rfl rfl _ M 0 0 Z9 (by simpa using hge) (by simp[hsize]) (fun x _ _ h=>by omega) (fun m row j u h1 h2=>(L m row j u h1 h2).2)
  refine⟨_,_,r,I1.newRows (P:=Pd) g (by simp) (d:=⟨w.heap.size,0,gc,false,none⟩) ⟨rfl,rfl⟩ Z6 Z7 (fun b=>?_) hd (by simp[VT,Dec.addr])⟩;rw[XR,W3];have:=N b;rw[cS,W3]at this;exact Xu (Nat.add_le_add_right (Nat.le_add_left _ _) _) this
section
variable  {δ β : Type}
def ey:List (List (T δ))→Option (List Int)|[]=>some []|[.v (.int .u8 n)]::r=>(ey r).map fun l=>n::l|_::_=>none
def mW (M:Mk δ β)(tab:Tab)(D:St δ β)(a dst:Nat)(x:Operand):Option (List (List (T δ))):=
 match tab.ti a,tab.ti dst,cellsCopy M D x with
 |some ⟨_,_,_,.slice e⟩,some ⟨_,_,_,.str⟩,some (false,[.s _ _ 1 rows])=>match tab.ti e with|some ⟨_,_,_,.int .u8⟩=>some rows|_=>none
 |_,_,_=>none
end
theorem Df:∀{rows:List (List DT)}{xs:List Int},ey rows=some xs→rows=xs.map fun n=>[.v (.int .u8 n)]
 |[],xs,h=>by cases h;rfl
 |r::rs,xs,h=>by
  unfold ey at h;split at h
  ·rename_i a;cases a
  ·rename_i n c a;cases a;rw[WD]at h;obtain⟨l,b,rfl⟩:=h;rw[Df b];rfl
  ·cases h
theorem Gd {P:Program}{tab:Tab}(ok:bz P tab)(I:Inv cx D [] a.tmps w){c dst:Nat}{x:Operand}{rows:List (List DT)}{xs:List Int}(e:mW mkD tab D c dst x=some rows)(B:ey rows=some xs):(convert c dst (a.eval x)).run P w = .ok (.string (strOfNums xs)) w:=by
 unfold mW at e;split at e
 case h_2=>cases e
 rename_i _ _ _ q _ _ _ k d r hs hd C;split at e
 case h_2=>cases e
 rename_i F;cases e;obtain⟨ys,G,hv⟩:=I.cellsCopy C;simp only[cy,W2,Xs]at hv;subst hv;have s:=gM (Tab.ok ok hs) rfl;have f:=yF (Tab.ok ok hd) rfl;have l:=FW (Tab.ok ok F) rfl;have H:VT (.s k d 1 rows) (a.eval x):=G.v.2 0 _ _ rfl rfl;have J:=G.holds _ (Xe _);have u:=Df B;obtain⟨cs,R,O,K⟩:=J.cells (by omega);have g:rows.length=xs.length:=by rw[u];simp
 have m:a.eval x = .slice d.addr rows.length d.cap:=H;rw[m];rcases K with⟨z,Q⟩|⟨q1,L,M⟩
 ·have t:xs=[]:=XH.1 (by rw[←g,z];rfl);subst t;rw[z];cases n:d.addr with
  |none=>exact run_convert_bytes_nil w c q s l 0 d.cap dst f
  |some ad =>
   have hsp:(convert c dst (.slice (some ad) 0 d.cap)).run P w = .ok (.string (strOfNums [])) w:=by obtain⟨b,o,sp⟩:=ad;rw[run_convert_bytes_string w c dst q _ 0 d.cap s l f];rw[run_bytesToString w ⟨b,o,sp⟩ 0 d.cap [] (run_loadCells_list w ⟨b,o,sp⟩ [] (fun j v h=>by simp at h))];rfl
   exact hsp
 ·have n:d.addr=some ⟨d.b,d.o,none⟩:=by rw[Dec.addr_none L,q1];rfl
  rw[n];refine run_convert_bytes_arg w c q s l d.b d.o rows.length d.cap xs g.symm (fun i hi=>?_) dst f;have p:rows[i]?=some [.v (.int .u8 (xs.getD i 0))]:=by rw[u,WQ,List.getD_eq_getElem?_getD,WE (by omega)];rfl
  obtain⟨y,A,N⟩:=R.val i _ 0 _ p rfl;rw[show y=_ from N.1]at A;have:=M (i*1+0) _ A;rw[show d.o+(i*1+0)=d.o+i by omega]at this;exact this
section
variable  {δ β : Type}
def km (s:Zz):List (List (T δ)):=s.data.toList.map fun b=>[.v (.int .u8 (b.toNat:Int))]
def iy (M:Mk δ β)(F:nv δ β)(tab:Tab)(D:St δ β)(dst:Option Nat)(a t:Nat)(x:Operand):Option (St δ β):=
 match tab.ti a,tab.ti t,dst,opd M.nil D x with
 |some ⟨_,_,_,.str⟩,some ⟨_,_,_,.slice e⟩,some d,some (.one (.v (.string s)))=>
  match tab.ti e with
  |some ⟨1,_,_,.int .u8⟩=>if d<D.length then some (bj D (some d) (.one (.s .own (F.str s.size e) 1 (km s))))else none
  |_=>none
 |_,_,_,_=>none
end
theorem HG {P:Program}{tab:Tab}(ok:bz P tab)(I:Inv cx D [] a.tmps w){dst:Option Nat}{v:Nat}{x:Operand}(e:iy mkD (frD w) tab D dst v t x=some D'):∃y w',(convert v t (a.eval x)).run P w = .ok y w'∧Inv cx D' [] (a.put dst y).tmps w':=by
 unfold iy at e;split at e
 case h_2=>cases e
 rename_i _ _ _ _ _ _ l d s hs H J;split at e
 case h_2=>cases e
 rename_i K;split at e
 case isFalse=>cases e
 rename_i hd;cases e;have L:=yF (Tab.ok ok hs) rfl;have B:=gM (Tab.ok ok H) rfl;have C:=FW (Tab.ok ok K) rfl;have F:a.eval x = .string s:=(I.opd J).val.1;have f:=run_bytes_of_string (P:=P) w v t l s L B C;rw[←F]at f;have z:=grownCap_ge w s.size 0 l;have M:(frD w).str s.size l=⟨w.heap.size,0,grownCap w s.size 0 l,false,none⟩:=rfl;rw[M];generalize grownCap w s.size 0 l=p at f z;have m:(bytesRow s p).size=p:=by unfold bytesRow;have:s.data.size=s.size:=rfl;simp[this];omega
 have A:∀j (G:j<s.data.size),(bytesRow s p)[j]?=some (.int .u8 (s.data[j].toNat:Int)):=fun j G=>bytesRow_at s p j G
 generalize bytesRow s p=cells at f m A;have g:=(Grew.drew w).trans (Grew.alloc w.drew (.cells cells l (cells.size,cells.size+1)));have r:(w.drew.alloc (.cells cells l (cells.size,cells.size+1))).heap[w.heap.size]?=some (.cells cells l (cells.size,cells.size+1)):=by show(w.heap.push _)[w.heap.size]?=_;simp
 have c:∀(i:Nat)(row:List DT),(km s:List (List DT))[i]?=some row→∃h:i<s.data.size,row=[.v (.int .u8 (s.data[i].toNat:Int))]:=by
  intro i row h;unfold km at h;rw[WQ,WD]at h;obtain⟨b,n,rfl⟩:=h;have hi:i<s.data.size:=by
   rcases WI i s.data.toList.length with q|q
   ·simpa using q
   ·rw[WF q]at n;cases n
  refine⟨hi,?_⟩;rw[WE (by simpa using hi)]at n;cases n;simp
 have o:(km s:List (List DT)).length=s.size:=by unfold km;simp
 have N:Holds (w.drew.alloc (.cells cells l (cells.size,cells.size+1))) (.s .own ⟨w.heap.size,0,p,false,none⟩ 1 (km s)):=by
  refine .s _ _ _ _ rfl rfl _ l _ r (by rw[o];exact z) (fun i row h=>?_) (fun i row j u n k=>?_) (fun i row j u n k=>?_)
  ·obtain⟨_,rfl⟩:=c i row h;rfl
  ·obtain⟨hi,rfl⟩:=c i row n;cases j with
   |zero =>simp only[Xw,Xd]at k;subst k;exact⟨_,by simpa using A i hi,rfl,rfl⟩
   |succ j=>simp at k
  ·obtain⟨hi,rfl⟩:=c i row n;cases j with
   |zero=>simp only[Xw,Xd]at k;subst k;exact .v _
   |succ j=>simp at k
 have O:OwnT (w.drew.alloc (.cells cells l (cells.size,cells.size+1))) (.s .own ⟨w.heap.size,0,p,false,none⟩ 1 (km s)):=by
  refine .s _ _ _ rfl rfl _ l _ _ r (by rw[o];exact z) (by simp[m]) (fun q n k h=>by simp at k;omega) (fun i row j u n k=>?_);obtain⟨hi,rfl⟩:=c i row n;cases j with
  |zero=>simp only[Xw,Xd]at k;subst k;exact .v _
  |succ j=>simp at k
 refine⟨_,_,f,I.newRows (P:=[]) g (by simp) (d:=⟨w.heap.size,0,p,false,none⟩) ⟨rfl,rfl⟩ N O (fun b=>?_) hd (by simp[VT,Dec.addr,o])⟩;have:(km s:List (List DT)).flatMap (fun x=>x.flatMap Am.bl)=[]:=by rw[WY];intro row Q;obtain⟨i,hi⟩:=WL Q;obtain⟨_,rfl⟩:=c i row hi;rfl
 rw[this];simp
section
variable  {δ β : Type}
def ot (D:St δ β)(x:Operand)(dst:Option Nat):Option (St δ β):=
 match x,dst with
 | .tmp t,some d =>
  match D[t]? with
  |some (.tup rs)=>if d<D.length∧(rs.all fun r=>r.2.all T.noLent)=true then some (bj (D.set t .any) (some d) (.tup rs))else none
  |_=>none
 |_,_=>none
end
theorem Id:∀(us:List DT),(∀u∈us,∃v,VT u v)→∃a:List Value,us.length=a.length∧∀p∈us.zip a,p.1∈us∧VT p.1 p.2
 |[],_=>⟨[],rfl,fun p hp=>by cases hp⟩
 |u::us,h=>by
  obtain⟨v,hv⟩:=h u (by simp);obtain⟨a,c,b⟩:=Id us fun u d=>h u (by simp[d])
  refine⟨v::a,by simp[c],fun p hp=>?_⟩;rw[List.zip_cons_cons]at hp;rcases WZ.1 hp with rfl|hp
  ·exact⟨by simp,hv⟩
  ·exact⟨by simp[(b p hp).1],(b p hp).2⟩
theorem JT (I:Inv cx D [] a.tmps w){dst:Option Nat}{x:Operand}(e:ot D x dst=some D'):Inv cx D' [] (a.put dst (a.eval x)).tmps w:=by
 unfold ot at e;split at e
 case h_2=>cases e
 rename_i t d;split at e
 case h_2=>cases e
 rename_i rs hD;split at e
 case isFalse=>cases e
 rename_i hc;cases e;obtain⟨hd,C⟩:=hc;have g:=WC hD;have n:=I.val t _ hD;obtain⟨N,R,o,f⟩:=n;have F:=I.mem _ g;have l:∀u∈an (.tup rs:DSl),bQ cx D u:=I.kind _ g;have O:∀u∈an (.tup rs:DSl),u.noLent=true:=by intro u c;obtain⟨r,G,c⟩:=WP.1 c;exact WS.1 (WS.1 C r G) u c
 have hv:∀u∈an (.tup rs:DSl),∃v,VT u v:=by
  intro u c;obtain⟨r,G,c⟩:=WP.1 c;obtain⟨j,H⟩:=WL G;have S:j<rs.length:=by
   rcases WI j rs.length with q|q
   ·exact q
   ·rw[WF q]at H;cases H
  have m:=f j r N.toList[j] H (WE (by omega));unfold VPart at m;split at m
  ·obtain⟨cs,i,B,U⟩:=m;obtain⟨k,l⟩:=WL c;have V:k<r.2.length:=by
    rcases WI k r.2.length with q|q
    ·exact q
    ·rw[WF q]at l;cases l
   exact⟨_,U k u _ l (WE (by omega))⟩
  ·obtain⟨t',i,B⟩:=m;rw[i,WG]at c;subst c;exact⟨_,B⟩
 obtain⟨J,W,hz⟩:=Id _ hv;have y:=pB _ J W;have hb:∀b,((an (.tup rs:DSl)).flatMap ownR).count b=(ownBl (.tup rs:DSl)).count b:=by intro b;show((rs.flatMap (·.2)).flatMap ownR).count b=(rs.flatMap fun r=>r.2.flatMap ownR).count b;rw[List.flatMap_assoc]
 have X:=I.swap (Q:=(an (.tup rs:DSl)).zip J) (s := .any) hD (fun s' A=>by obtain⟨u,c⟩:=WL A;exact I.tup_refs hD (I.val u s' c) (I.kind s' A)) (fun h=>h) trivial
  ⟨fun u c=>(by cases c),fun u c=>(by cases c),trivial⟩ (fun u c=>(by cases c))
  (fun p m=>by
   obtain⟨i,B⟩:=hz p m;refine⟨B,F.1 _ i,F.2.1 _ i,fun Y x K=>?_⟩;have L:=l _ i;have M:=O _ i;generalize p.1=u at *;cases u with
   |v x=>simp[bl]at K
   |any=>simp[bl]at K
   |s k d z r=>cases k<;>first|exact L x K|(cases M;done)|(cases Y;done))
  (fun b=>by rw[y b,hb b,cX];show([]:List Nat).count b+_≤_;simp)
 exact Inv.put (P:=(an (.tup rs:DSl)).zip J) (Q:=[]) (by rw[WX];exact X) (by simpa using hd) (s := .tup rs) ⟨N,R,o,f⟩ F (fun u c=>uE (O u c) (l u c)) (fun b=>by rw[y b,hb b];exact Xj _)
section
variable  {δ β : Type}
def kL (M:Mk δ β)(F:nv δ β)(tab:Tab)(D:St δ β)(dst:Option Nat)(t len:Nat)(a:List (Nat×Operand)):Option (St δ β):=
 match tab.ti t,dst,a with
 |some ⟨_,_,_,.slice e⟩,some d,[(0,x)]=>
  match tab.ti e,cellsTake M D x with
  |some b,some (_,us,D1)=>
   if len=1∧d<D1.length∧b.size≠0∧b.zero.length=b.size∧b.size≤2 ^ 24∧us.length=b.size∧us.all (fun u=>u.isOwn ||u.flat)=true then
    some (bj D1 (some d) (.one (.s .own (F.row 1) b.size [us])))
   else none
  |_,_=>none
 |_,_,_=>none
def pV (M:Mk δ β)(tab:Tab)(D:St δ β)(t:Nat)(p:Operand)(z:Nat):Option (St δ β):=
 match tab.ti t with
 |some ti=>if ti.size=1 then(opd M.nil D p).bind fun p=>jN D p [.s .own M.nil z []]else none
 |none=>none
end
theorem NP (h:(u.isOwn ||u.flat)=true)(b:u.isOwn=true→OwnT w u):OwnT w u∧ownR u=bl u:=by
 cases a:u.isOwn with
 |true=>exact⟨b a,by simp[ownR,a]⟩
 |false =>rw[a,YD]at h;exact⟨(KI h).1,by simp[ownR,a,OF h]⟩
theorem CE {P:Program}{tab:Tab}(ok:bz P tab)(I:Inv cx D [] a.tmps w){dst:Option Nat}{len:Nat}{f:Array (Nat×Operand)}(e:kL mkD (frD w) tab D dst t len f.toList=some D'):∃y w',(Instr.buildSlice t len (f.map fun(i,x)=>(i,a.eval x))).run P w = .ok y w'∧Inv cx D' [] (a.put dst y).tmps w':=by
 unfold kL at e;split at e
 case h_2=>cases e
 rename_i sz Z ze l d x K m;split at e
 case h_2=>cases e
 rename_i c gg us D1 A hx;split at e
 case isFalse=>cases e
 rename_i hc;cases e;obtain⟨rfl,hd,L,M,Q,B,C⟩:=hc;obtain⟨ys,Pd,I1,G,hv⟩:=I.cellsTake hx;have s:=gM (Tab.ok ok K) rfl;obtain⟨z,g1,S,g3⟩:=yG (Tab.ok ok A) w;have hs:=mC (Tab.ok ok A) w;have U:=lW (P:=P) (t:=l) (w:=w) (cx:=cx) (D:=D) (ys:=z.cells.toList) g3;rw[←S]at U;have F:z.cells.size=c.size:=by rw[←M,S];simp[en]
 have V:=RowsAre.init U.v (by omega) 1;rw[F]at V;have n:=mX G hv;obtain⟨N,R⟩:=V.set (i:=0) (by simp) G.v B;have e2:=G.v.1;have r:(List.replicate 1 (c.zero.map (T.inj nilD))).set 0 us=[us]:=rfl;rw[r]at R;have f1:Instr.fill (fun i=>some (i*c.size,c.size)) ((Array.range (1*c.size)).map fun i=>z.cells[i % c.size]!) [(0,a.eval x)]=some (au ((Array.range (1*c.size)).map fun i=>z.cells[i % c.size]!).toList (0*c.size) ys).toArray:=by simp only[Instr.fill,n];rw[WM (by simp;omega)];have h3:=iS ys.toArray (0*c.size) ((Array.range (1*c.size)).map fun i=>z.cells[i % c.size]!) (by simpa using N);rw[h3]
 generalize W:au ((Array.range (1*c.size)).map fun i=>z.cells[i % c.size]!).toList (0*c.size) ys=k at *;have H:(Instr.buildSlice t 1 (f.map fun(i,x)=>(i,a.eval x))).run P w = .ok (.slice (some ⟨w.heap.size,0,none⟩) 1 1) (w.alloc (.cells k.toArray l)):=by
  have O:Instr.fill (fun i=>some (i*c.size,c.size)) ((Array.range (1*c.size)).map fun i=>z.cells[i % c.size]!) (f.toList.map fun p=>(p.1,a.eval p.2))=some k.toArray:=by rw[m];exact f1
  simp only[Instr.buildSlice,run_underlying s,Sem.run_bind,Result.andThen_ok,hs];rw[WM (by omega)];simp[g1,F];have J:=O;rw[Nat.one_mul]at J;simp[J,L,kR]
 have g:=Grew.alloc w (.cells k.toArray l);have o:(w.alloc (.cells k.toArray l)).heap[w.heap.size]?=some (.cells k.toArray l (0,0)):=by show(w.heap.push _)[w.heap.size]?=_;simp
 have q:∀(i:Nat)(row:List DT)(j:Nat)(u:DT),[us][i]?=some row→row[j]?=some u→u∈us:=fun i row j u hi hj=>by
  have:row=us:=by have:=WC hi;simpa using this
  subst this;exact WC hj
 have X:∀u∈us,OwnT w u∧ownR u=bl u:=fun u s=>NP (WS.1 C u s) (G.own u s)
 have hH:Holds (w.alloc (.cells k.toArray l)) (.s .own ((frD w).row 1) c.size [us]):=by refine .s _ _ _ _ rfl rfl _ l (0,0) o (by simp[frD]) R.row (fun i row j t hi hj=>?_) (fun i row j t hi hj=>(G.holds t (q i row j t hi hj)).frame fun b _ hb=>g.same b hb);obtain⟨y,y1,y2⟩:=R.val i row j t hi hj;exact⟨y,by simpa[frD]using y1,y2⟩
 have hO:OwnT (w.alloc (.cells k.toArray l)) (.s .own ((frD w).row 1) c.size [us]):=by refine .s _ _ _ rfl rfl _ l 0 0 o (by simp[frD]) (by simp[frD,R.len]) (fun x _ _ h=>by omega) (fun i row j t hi hj=>?_);exact((X t (q i row j t hi hj)).1).frame fun b _ hb=>g.same b hb
 refine⟨_,_,H,I1.newRows (P:=Pd) g (by simp) (d:=(frD w).row 1) ⟨rfl,rfl⟩ hH hO (fun b=>?_) hd (by simp[VT,Dec.addr,frD])⟩;have Y:=G.cnt b;have h2:us.flatMap ownR=us.flatMap bl:=by rw[YZ,YZ,Xi fun u s=>(X u s).2]
 rw[h2]at Y;simpa using Y
theorem HF {P:Program}{tab:Tab}(ok:bz P tab)(I:Inv cx D [] a.tmps w){p:Operand}(e:pV mkD tab D t p z=some D'):∃w',(Instr.storeAt t (a.eval p) (.slice none 0 0)).run P w = .ok () w'∧Inv cx D' [] a.tmps w':=by
 unfold pV at e;split at e
 case h_2=>cases e
 rename_i ti d;split at e
 case isFalse=>cases e
 rename_i f;rw[WA]at e;obtain⟨i,h,e⟩:=e;refine In (g:=false) ok I d (ys:=[.slice none 0 0]) ⟨.one ?_,fun u c=>?_,fun u c _=>?_,fun u c=>?_,fun b=>?_⟩ (by simp[cy]) (by simp[f]) h e
 ·simp[VT,Dec.addr,mkD,nilD]
 ·rw[WG]at c;subst c;exact .e _ _ _
 ·rw[WG]at c;subst c;exact .nil _ _ rfl rfl rfl
 ·rw[WG]at c;subst c;trivial
 ·simp[ownR,T.isOwn,cS,mkD,nilD]
section
variable  {δ β : Type}
def qt (M:Mk δ β)(tab:Tab)(D:St δ β)(dst:Option Nat)(t:Nat)(a:List (Nat×Operand)):Option (St δ β):=
 match tab.ti t,tab.pl t,a,dst with
 |some ti,some pl,(i,x)::r,some d =>
  match pl[i]?,cellsTake M D x with
  |some (off,size),some (_,us,D1)=>
   if us.length=size∧off+us.length≤(ti.zero.map (T.inj M.nil)).length∧d<D1.length then
    (cJ M D1 pl r (au (ti.zero.map (T.inj M.nil)) off us)).map fun ts=>bj D1 (some d) (.agg ts)
   else none
  |_,_=>none
 |_,_,_,_=>none
end
theorem Got.spliceP {Q:List (DT×Value)}{ts us:List DT}{xs:List Value}(G:Got cx D w P ts xs)(H:Got cx D w Q us ys){off:Nat}(c:off+us.length≤ts.length):
  Got cx D w (P++Q) (au ts off us) (au xs off ys):=by
 refine⟨G.v.splice H.v c,fun t a=>?_,fun t a=>?_,fun t a=>?_,fun b=>?_⟩
 ·rcases iv a with h|h
  ·exact G.holds t h
  ·exact H.holds t h
 ·rcases iv a with h|h
  ·exact G.own t h
  ·exact H.own t h
 ·rcases iv a with h|h
  ·exact G.kind t h
  ·exact H.kind t h
 ·have d:=qv ownR ts us off b;have e:=G.cnt b;have f:=H.cnt b;rw[jr];omega
theorem kW {cx:Cx}{D:DSt}{h P:List (DT×Value)}{a:Act}{w:World}(I:Inv cx D h a.tmps w)(pl:List (Nat×Nat)):∀(b:List (Nat×Operand)){ts ts':List DT}{xs:List Value},Got cx D w P ts xs →
  cJ mkD D pl b ts=some ts'→∃ys,Instr.fill (pl.toArray[·]?) xs.toArray (b.map fun p=>(p.1,a.eval p.2))=some ys.toArray∧Got cx D w P ts' ys
 |[],ts,ts',xs,G,e=>by cases e;exact⟨xs,rfl,G⟩
 |(i,x)::r,ts,ts',xs,G,e=>by
  simp only[cJ]at e;split at e
  case h_2=>cases e
  rename_i off size g us j hc;split at e
  case isFalse=>cases e
  rename_i k;obtain⟨ys,H,hv⟩:=I.cellsCopy hc;have c:=mX H hv;have f:=G.spliceP H k.2;rw[WX]at f;obtain⟨l,m,n⟩:=kW I pl r f e;refine⟨l,?_,n⟩;have o:=G.v.1;have q:=H.v.1;have d:pl.toArray[i]?=some (off,size):=by simpa using j
  simp only[WT,Instr.fill,d,c];rw[WM (by simp;omega)];rw[iS ys.toArray off xs.toArray (by simp;omega)];simpa using m
theorem Kl {P:Program}{tab:Tab}(ok:bz P tab)(I:Inv cx D [] a.tmps w){dst:Option Nat}{b:Array (Nat×Operand)}(e:qt mkD tab D dst t b.toList=some D'):
  ∃y,(Instr.build t (b.map fun(i,x)=>(i,a.eval x))).run P w = .ok y w∧Inv cx D' [] (a.put dst y).tmps w:=by
 unfold qt at e;split at e
 case h_2=>cases e
 rename_i ti pl i x r d m n c;split at e
 case h_2=>cases e
 rename_i off size S us D1 B C;split at e
 case isFalse=>cases e
 rename_i hc;rw[WD]at e;obtain⟨ts,F,rfl⟩:=e;obtain⟨J,l,hd⟩:=hc;obtain⟨ys,U,q,H,hv⟩:=I.cellsTake C;obtain⟨V,W,z,g1,X,g3,g4,Y,K,Z,L⟩:=iq (Tab.ok ok m);have G:=lW (P:=P) (t:=t) (w:=w) (cx:=cx) (D:=D1) (ys:=z.cells.toList) L;rw[←K]at G;have u:=G.spliceP H l;rw[W7]at u;obtain⟨A,M,N⟩:=kW q pl r u F;have f:=mX H hv;have k:Instr.fill (pl.toArray[·]?) z.cells.toList.toArray (b.toList.map fun p=>(p.1,a.eval p.2))=some A.toArray:=by
  rw[c];have O:z.cells.toList.length=z.cells.size:=by simp
  have Q:(ti.zero.map (T.inj mkD.nil)).length=z.cells.size:=by rw[←O];exact G.v.1
  have e2:=H.v.1;rw[Q]at l;have o:pl.toArray[i]?=some (off,size):=by simpa using B
  simp only[WT,Instr.fill,o,f];rw[WM (by simp;omega)];rw[iS ys.toArray off z.cells.toList.toArray (by simp;omega)];simpa using M
 refine⟨.agg A.toArray,run_build w t _ _ ?_,?_⟩
 ·have j:=Tab.okPl ok n;unfold rU at j;split at j
  ·rename_i fs R;unfold Program.built;rw[g1,R];simp only[g3,j];simpa using k
  ·cases j
 ·exact q.putGot (g:=true) (s := .agg ts) N (by simp[cy]) rfl (fun t' h=>by cases h;exact hd) rfl
section
variable  {δ β : Type}
def rS (D:St δ β):Operand→Bool
 | .tmp t=>match D[t]? with|some s=>s.isHome|none=>false
 |_=>false
def uw (M:Mk δ β)(tab:Tab)(D:St δ β)(dst:Option Nat)(t:Nat)(a:List (Nat×Operand)):Option (St δ β):=
 match tab.ti t,tab.pl t,a.dropWhile (fun p => !rS D p.2),dst with
 |some ti,some pl,(i,x)::r,some d =>
  match pl[i]?,cellsTake M D x,cJ M D pl (a.takeWhile (fun p => !rS D p.2)) (ti.zero.map (T.inj M.nil))with
  |some (off,size),some (_,us,D1),some b =>
   if us.length=size∧off+us.length≤b.length∧d<D1.length∧b.all T.noLent=true then
    (cJ M D1 pl r (au b off us)).map fun ts=>bj D1 (some d) (.agg ts)
   else none
  |_,_,_=>none
 |_,_,_,_=>none
def pX (M:Mk δ β)(tab:Tab)(D:St δ β)(dst:Option Nat)(t:Nat)(a:List (Nat×Operand)):Option (St δ β):=
 match qt M tab D dst t a with
 |some r=>some r
 |none=>uw M tab D dst t a
theorem Kk {M:Mk δ β}{tab:Tab}{D r:St δ β}{dst:Option Nat}{a:List (Nat×Operand)}(h:qt M tab D dst t a=some r):pX M tab D dst t a=some r:=by unfold pX;rw[h]
end
theorem C3 {pl:Nat→Option (Nat×Nat)}:∀(b a:List (Nat×Value))(xs ys:Array Value),Instr.fill pl xs b=some ys→Instr.fill pl xs (b++a)=Instr.fill pl ys a
 |[],a,xs,ys,h=>by simp only[Instr.fill]at h;cases h;rfl
 |(i,v)::b,a,xs,ys,h=>by
  rw[YY];unfold Instr.fill at h
  conv=>lhs;unfold Instr.fill
  cases c:pl i with
  |none=>rw[c]at h;cases h
  |some os =>
   obtain⟨off,size⟩:=os;rw[c]at h;simp only at h ⊢;split at h
   ·cases h
   ·rename_i hc;rw[WM hc];exact C3 b a _ ys h
theorem IA {P:Program}{tab:Tab}(ok:bz P tab)(I:Inv cx D [] a.tmps w){dst:Option Nat}{b:Array (Nat×Operand)}(e:uw mkD tab D dst t b.toList=some D'):
  ∃y,(Instr.build t (b.map fun(i,x)=>(i,a.eval x))).run P w = .ok y w∧Inv cx D' [] (a.put dst y).tmps w:=by
 unfold uw at e;split at e
 case h_2=>cases e
 rename_i ti pl i x r d u A c;split at e
 case h_2=>cases e
 rename_i off size gg us D1 B O Q m;split at e
 case isFalse=>cases e
 rename_i hc;rw[WD]at e;obtain⟨ts,R,rfl⟩:=e;obtain⟨S,n,hd,C⟩:=hc;obtain⟨ys,Pd,K,H,hv⟩:=I.cellsTake Q;obtain⟨i',dd,z,g1,g2,g3,g4,g5,U,g7,V⟩:=iq (Tab.ok ok u);have G:=lW (P:=P) (t:=t) (w:=w) (cx:=cx) (D:=D) (ys:=z.cells.toList) V;rw[←U]at G;obtain⟨o,F,l⟩:=kW I pl _ G m;have W:Got cx D1 w [] B o:=⟨l.v,l.holds,l.own,fun t L=>uE (WS.1 C t L) (l.kind t L),l.cnt⟩
 have M:=W.spliceP H n;rw[W7]at M;obtain⟨N,X,Y⟩:=kW K pl r M R;have f:=mX H hv;have q:b.toList=b.toList.takeWhile (fun p => !rS D p.2)++(i,x)::r:=by rw[←c];exact(List.takeWhile_append_dropWhile).symm
 have k:Instr.fill (pl.toArray[·]?) z.cells.toList.toArray (b.toList.map fun p=>(p.1,a.eval p.2))=some N.toArray:=by
  rw[q,XB,C3 _ _ _ _ F];have Z:=l.v.1;have e2:=H.v.1;rw[Z]at n;have J:pl.toArray[i]?=some (off,size):=by simpa using O
  simp only[WT,Instr.fill,J,f];rw[WM (by simp;omega)];rw[iS ys.toArray off o.toArray (by simp;omega)];simpa using X
 refine⟨.agg N.toArray,run_build w t _ _ ?_,?_⟩
 ·have j:=Tab.okPl ok A;unfold rU at j;split at j
  ·rename_i fs hu;unfold Program.built;rw[g1,hu];simp only[g3,j];simpa using k
  ·cases j
 ·exact K.putGot (g:=true) (s := .agg ts) Y (by simp[cy]) rfl (fun t' h=>by cases h;exact hd) rfl
theorem IB {P:Program}{tab:Tab}(ok:bz P tab)(I:Inv cx D [] a.tmps w){dst:Option Nat}{b:Array (Nat×Operand)}(e:pX mkD tab D dst t b.toList=some D'):
  ∃y,(Instr.build t (b.map fun(i,x)=>(i,a.eval x))).run P w = .ok y w∧Inv cx D' [] (a.put dst y).tmps w:=by
 unfold pX at e;split at e
 ·rename_i r h;cases e;exact Kl ok I h
 ·exact IA ok I e
section
section
variable  {δ β : Type}
def putA (D:St δ β)(t:Nat)(x:Sl δ β):St δ β :=
 match D[t]? with
 |some .any=>D.set t x
 |_=>bj D (some t) x
def e8 (D:St δ β)(dst:Option Nat)(x:Sl δ β):Option (St δ β):=
 match dst with
 |none=>some D
 |some t=>if t<D.length then some (putA D t x)else none
def lY (M:Mk δ β)(tab:Tab)(D:St δ β)(t:Nat)(x:Operand):Option (Bool×List (T δ)×St δ β):=
 match tab.ti t,opd M.nil D x with
 |some ti,some (.pb h 0)=>
  match D[h]? with
  |some (.box _ ts)=>if ts.length=ti.size∧ti.sh ≠ .other∧ti.sh.agg=true∧ts.all T.noLent=true then some (true,ts,bm h D)else none
  |_=>none
 |_,_=>none
def ve (tab:Tab)(ty:Nat)(x:Operand):Option Nat :=
 match x with
 | .const (.slice none 0 0)=>match tab.ti ty with|some ⟨_,_,_,.slice e⟩=>(tab.ti e).map (·.size)|_=>none
 |_=>none
def ko (D:St δ β)(x:Operand):Option (List (Bool×List (T δ))):=
 match x with
 | .tmp t=>match D[t]? with|some (.tup rs)=>if(rs.all fun r=>r.2.all T.flat)=true∧rs≠[]then some rs else none|_=>none
 |_=>none
def xD (c:Call):Option (Nat×Nat×Operand×Operand):=
 match c.callee,c.args.toList,c.argTypes.toList with
 | .builtin .append,[s,x],[t,t2]=>some (t,t2,s,x)
 |_,_,_=>none
def dB (M:Mk δ β)(F:nv δ β)(tab:Tab)(D:St δ β)(o:Oper)(tk:Bool):Option (St δ β):=
 match o.op with
 | .store t p x=>match o.dst with
  |none=>(match ve tab t x with|some z=>pV M tab D t p z|none=>sg M tab D t p x tk)
  |some _=>none
 | .alloc t=>pW M F tab D o.dst t
 | .box _ x=>Cv M F D o.dst x tk
 | .move x=>match ve tab o.type x with
  |some z=>e8 D o.dst (.one (.s .own M.nil z []))
  |none=>match ko D x with
  |some rs=>e8 D o.dst (.tup rs)
  |none=>match(if tk then ot D x o.dst else none)with
  |some D'=>some D'
  |none=>if tk then(cellsTake M D x).bind fun r=>match o.dst with|some t=>if t<r.2.2.length then(jm r.1 r.2.1).map fun s=>bj r.2.2 (some t) s else none|none=>none
   else(cf M tab D o.op).bind fun s=>e8 D o.dst s
 | .assign x=>match ve tab o.type x with
  |some z=>e8 D o.dst (.one (.s .own M.nil z []))
  |none=>if tk then(cellsTake M D x).bind fun r=>match o.dst with|some t=>if t<r.2.2.length then(jm r.1 r.2.1).map fun s=>bj r.2.2 (some t) s else none|none=>none
   else(cf M tab D o.op).bind fun s=>e8 D o.dst s
 | .load t x=>if tk then(lY M tab D t x).bind fun r=>match o.dst with|some t=>if t<r.2.2.length then(jm r.1 r.2.1).map fun s=>bj r.2.2 (some t) s else none|none=>none
   else(cf M tab D o.op).bind fun s=>e8 D o.dst s
 | .extract x i=>qa D o.dst x i
 | .makeFunc fn first caps=>match fn with| .func f=>if first.toList=[]then(yS D f caps.toList).bind fun s=>e8 D o.dst s else none|_=>none
 | .buildSlice t len a=>if tk then kL M F tab D o.dst t len a.toList else fm M F tab D o.dst t len a.toList
 | .makeSlice t l c=>fo M F tab D o.dst t l c
 | .call c=>match xD c with
  |some (t,t2,s,x)=>mV M F tab D o.dst t t2 s x
  |none=>(cf M tab D o.op).bind fun s=>e8 D o.dst s
 | .convert b dst x=>match mW M tab D b dst x with
  |some rows=>(ey rows).bind fun xs=>e8 D o.dst (.one (.v (.string (strOfNums xs))))
  |none=>match iy M F tab D o.dst b dst x with
  |some D'=>some D'
  |none=>(cf M tab D o.op).bind fun s=>e8 D o.dst s
 | .build t a=>if tk then pX M tab D o.dst t a.toList else(nA M tab D t a.toList).bind fun s=>e8 D o.dst s
 |op=>(cf M tab D op).bind fun s=>e8 D o.dst s
end
theorem Inv.any_refs (I:Inv cx D P tm w)(x:D[t]?=some .any){s:DSl}(hv:VS D s y)(q:fa cx D s):¬cZ t s:=by
 have hc:∀c,aw D t c=none:=fun c=>by simp[aw,x,bh]
 have j:∀(us:List DT),(∀u∈us,bQ cx D u)→¬ ∃u∈us,∃c o d z r,u = .s (.lent t c o) d z r:=by rintro us h ⟨u,v,c,o,d,z,r,rfl⟩;obtain⟨t',m,_⟩:=h _ v;rw[hc]at m;cases m
 intro l;cases s with
 |any=>exact l
 |one u=>obtain⟨c,o,d,z,r,rfl⟩:=l;exact j [_] (fun u v=>q u (by simpa[an]using v)) ⟨_,Xe _,c,o,d,z,r,rfl⟩
 |agg ts=>exact j ts q l
 |box b ts=>exact j ts q l
 |al h c st lo len =>simp only[cZ]at l;subst l;obtain⟨d,z,n,a,⟨t',m,_⟩,_⟩:=hv;rw[hc]at m;cases m
 |pe h c st i off =>simp only[cZ]at l;subst l;obtain⟨d,z,n,⟨t',m,_⟩,_⟩:=hv;rw[hc]at m;cases m
 |pb h off =>simp only[cZ]at l;subst l;obtain⟨b,ts,m,_⟩:=hv;rw[x]at m;cases m
 |im k b ts off =>
  cases k with
  |own=>exact l
  |far=>exact l
  |lent h c o =>simp only[cZ]at l;subst l;obtain⟨t',m,_⟩:=q;rw[hc]at m;cases m
 |fni f caps=>exact l
 |clo f hs =>
  obtain⟨B,m,C,_⟩:=hv;obtain⟨i,hi⟩:=WL l;obtain⟨b,hb⟩:∃b,B[i]?=some b:=by
   have:i<hs.length:=by
    rcases WI i hs.length with g|g
    ·exact g
    ·rw[WF g]at hi;cases hi
   exact⟨_,WE (by omega)⟩
  obtain⟨ts,A⟩:=C i t b hi hb;rw[x]at A;cases A
 |tup rs =>obtain⟨p,F,u,v,c,o,d,z,r,e⟩:=l;exact j (an (.tup rs)) q ⟨u,WP.2 ⟨p,F,v⟩,c,o,d,z,r,e⟩
theorem Inv.putA (I:Inv cx D [] a.tmps w){s:DSl}(f:t<D.length)(h:Tells cx D w s y):Inv cx (putA D t s) [] (a.put (some t) y).tmps w:=by
 have c:∀b,(ownBl s).count b≤bc [] b:=by intro b;have:ownBl s=[]:=h.noown;rw[this];simp[bc]
 unfold Am.putA;split
 ·rename_i e;exact Inv.fill (P:=[]) (Q:=[]) (by simpa using I) e (fun s' d=>by obtain⟨u,g⟩:=WL d;exact I.any_refs e (I.val u s' g) (I.kind s' d)) (I.any_refs e h.val h.kind) h.val h.mem h.kind c
 ·exact Inv.put (P:=[]) (Q:=[]) (by simpa using I) f h.val h.mem h.kind c
variable  {P : Program}{tab : Tab}
inductive Er (cx:Cx)(D':DSt)(a:Act)(o:Oper)(w':World):Next→Prop where|value (y:Value) (h:Inv cx D' [] (a.put o.dst y).tmps w'):Er cx D' a o w' (.value y)|skip (hd:o.dst=none) (h:Inv cx D' [] a.tmps w'):Er cx D' a o w' .skip
theorem nC (ok:bz P tab)(I:Inv cx D [] a.tmps w){o:Oper}(e:((cf mkD tab D o.op).bind fun s=>e8 D o.dst s)=some D'):
  ∃c w',(execOp a.eval o).run P w = .ok c w'∧Er cx D' a o w' c:=by
 rw[WA]at e;obtain⟨s,d,b⟩:=e;obtain⟨y,f,g⟩:=sq ok I d;refine⟨_,w,f,.value y ?_⟩;unfold e8 at b;split at b
 ·rename_i hd;cases b;rw[hd];exact I
 ·rename_i t hd;split at b
  ·cases b;rw[hd];exact I.putA ‹_› g
  ·cases b
theorem rV (I:Inv cx D [] a.tmps w){o:Oper}{s:DSl}(c:Tells cx D w s y)(b:e8 D o.dst s=some D'):Er cx D' a o w (.value y):=by
 refine .value y ?_;unfold e8 at b;split at b
 ·rename_i hd;cases b;rw[hd];exact I
 ·rename_i t hd;split at b
  ·cases b;rw[hd];exact I.putA ‹_› c
  ·cases b
theorem Io (I:Inv cx D [] a.tmps w){x:Operand}{dst:Option Nat}(e:((cellsTake mkD D x).bind fun r=>match dst with|some t=>if t<r.2.2.length then(jm r.1 r.2.1).map fun s=>bj r.2.2 (some t) s else none|none=>none)=some D'):
  Inv cx D' [] (a.put dst (a.eval x)).tmps w:=by
 rw[WA]at e;obtain⟨⟨g,us,D1⟩,c,b⟩:=e;obtain⟨ys,i,d,G,hv⟩:=I.cellsTake c;simp only at b;split at b
 ·rename_i t;split at b
  ·rename_i f;rw[WD]at b;obtain⟨s,hs,rfl⟩:=b;exact d.putGot G hv hs (fun t' h=>by cases h;exact f) rfl
  ·cases b
 ·cases b
theorem Jh (ok:bz P tab)(I:Inv cx D [] a.tmps w){o:Oper}{x:Operand}(C:o.op = .load t x)(e:((lY mkD tab D t x).bind fun r=>match o.dst with|some t=>if t<r.2.2.length then(jm r.1 r.2.1).map fun s=>bj r.2.2 (some t) s else none|none=>none)=some D'):
  ∃y,(execOp a.eval o).run P w = .ok (.value y) w∧Inv cx D' [] (a.put o.dst y).tmps w:=by
 rw[WA]at e;obtain⟨⟨g,us,D1⟩,l,n⟩:=e;unfold lY at l;split at l
 case h_2=>cases l
 rename_i ti h F M;split at l
 case h_2=>cases l
 rename_i b ts hh;split at l
 case isFalse=>cases l
 rename_i hc;cases l;obtain⟨N,O,Q,q⟩:=hc;have R:cf mkD tab D o.op=some (.agg (us.mapIdx fun j u=>u.kd (.lent h (0+j) true))):=by
  rw[C];have H:opd mkD.nil D x=some (.pb h 0):=M;simp only[cf,H,F];rw[WM O];simp only[kD,boxRange,hh];rw[Wz (by omega),Wy,Wz Q];have:(us.drop 0).take ti.size=us:=by rw[W9, ←N,Xb]
  rw[this]
 obtain⟨y,S,U⟩:=sq ok I R;refine⟨y,S,?_⟩;obtain⟨cs,V,m⟩:=U.val;have f:VCells us cs.toList:=by refine⟨by simpa using m.1,fun i u v hi hv=>?_⟩;have:=m.2 i (u.kd (.lent h (0+i) true)) v (by rw[Yi,hi];rfl) hv;exact O6.1 this
 have L:=I.mem _ (WC hh);have W:=I.kind _ (WC hh);have A:∀v∈us,∀h c B d z r,v ≠ .s (.lent h c B) d z r:=by intro v hv h c B d z r g;have:=WS.1 q v hv;rw[g]at this;simp[T.noLent]at this
 have X:=Inv.take I (cs:=us.zip cs.toList) hh (fun p J=>by obtain⟨i,hi⟩:=WL J;rw[Yy]at hi;exact⟨WC hi.1,WC hi.1,f.2 i _ _ hi.1 hi.2⟩)
  (fun p J=>A p.1 (List.of_mem_zip J).1) (fun c=>by rw[pB _ _ f.1];simp only[ownBl];rw[XL];omega) (by simp) (by simp)
 have G:Got cx (bm h D) w (us.zip cs.toList++[]) us cs.toList:=by
  refine⟨f,L.1,L.2.1,fun v hv=>?_,fun c=>?_⟩
  ·have K:=W v hv;have:=A v hv;cases v with
   |v x=>trivial
   |any=>trivial
   |s k d z r =>
    cases k with
    |own=>trivial
    |far=>exact K
    |lent h c B=>exact absurd rfl (this h c B d z r)
  ·rw[WX,pB _ _ f.1];exact Xj _
 simp only at n;split at n
 ·rename_i t' hd;split at n
  ·rename_i Y;rw[WD]at n;obtain⟨s,hs,rfl⟩:=n;have:=Inv.putGot (dst:=some t') X G (by simp only[cy,W8];exact V) hs (fun Z h=>by cases h;exact Y) rfl;rw[hd];exact this
  ·cases n
 ·cases n
theorem Q3 (I:Inv cx D [] a.tmps w){caps:Array Operand}{s:DSl}(e:yS D f caps.toList=some s):Tells cx D w s (.func (.func f) #[] (caps.map a.eval)):=by
 unfold yS at e;rw[WD]at e;obtain⟨hs,r,rfl⟩:=e;have l:∀(xs:List Operand){hs:List Nat},pA D xs=some hs →
   ∃d:List (Nat×Nat),d.length=hs.length∧(∀(i h:Nat)(b:Nat×Nat),hs[i]?=some h→d[i]?=some b→∃ts,D[h]?=some (.box b ts))∧xs.map a.eval=d.map fun b=>Value.pointer (some ⟨b.1,b.2,none⟩):=by
  intro xs;induction xs with
  |nil=>intro hs h;cases h;exact⟨[],rfl,fun i h b hi=>by simp at hi,rfl⟩
  |cons x xs v =>
   intro hs h;simp only[pA,WA,WD]at h;obtain⟨y,g,z,A,rfl⟩:=h;obtain⟨d,m,n,o⟩:=v A;have j:∃(b:Nat×Nat) (ts:List DT),D[y]?=some (.box b ts)∧a.eval x = .pointer (some ⟨b.1,b.2,none⟩):=by
    unfold mn at g;split at g
    ·rename_i t;split at g
     ·rename_i b ts hb;cases g;exact⟨b,ts,hb,I.val _ _ hb⟩
     ·rename_i B hb;cases g;obtain⟨b,ts,p,q⟩:=I.val _ _ hb;exact⟨b,ts,p,q⟩
     ·cases g
    ·cases g
   obtain⟨b,ts,p,q⟩:=j;refine⟨b::d,by simp[m],fun i h c hi hc=>?_,by simp[o,q]⟩;cases i with
   |zero=>simp at hi hc;subst hi;subst hc;exact⟨ts,p⟩
   |succ i=>simp at hi hc;exact n i h c hi hc
 obtain⟨d,m,n,o⟩:=l _ r;refine⟨⟨d,m,n,?_⟩,⟨fun u k=>by simp[an]at k,fun u k=>by simp[rootsO]at k,trivial⟩,fun u k=>by simp[an]at k,rfl⟩;congr 1;rw[←X7];simpa using o
theorem Ke {c:Call}{t2:Nat}{s x:Operand}(h:xD c=some (t,t2,s,x)):c.callee = .builtin .append∧c.args = #[s,x]∧c.argTypes = #[t,t2]:=by
 unfold xD at h;split at h
 ·rename_i a b d;cases h;exact⟨a,by rw[←X7];exact b,by rw[←X7];exact d⟩
 ·cases h
theorem Ip (I:Inv cx D [] a.tmps w){x:Operand}{rs:List (Bool×List DT)}(h:ko D x=some rs):Tells cx D w (.tup rs) (a.eval x):=by
 unfold ko at h;split at h
 ·rename_i t;split at h
  ·rename_i rs' hr;split at h
   ·rename_i hf;cases h;have c:=WC hr;refine⟨I.val t _ hr,I.mem _ c,I.kind _ c,?_⟩;simp only[ownBl,WY];intro r b u e;have:=WS.1 (WS.1 hf.1 r b) u e;cases u with
    |v x=>rfl
    |any=>rfl
    |s k d z q=>cases this
   ·cases h
  ·cases h
 ·cases h
theorem Ia (z:Nat):Tells cx D w (.one (.s .own nilD z [])) (.slice none 0 0):=by
 refine⟨rfl,⟨fun u a=>?_,fun u a _=>?_,trivial⟩,fun u a=>?_,?_⟩
 ·simp only[an,WG]at a;subst a;exact .e _ _ _
 ·simp only[rootsO,WG]at a;subst a;exact .nil _ _ rfl rfl rfl
 ·simp only[an,WG]at a;subst a;trivial
 ·simp[ownBl,ownR,T.isOwn,cS,nilD]
theorem FU (ok:bz P tab)(I:Inv cx D [] a.tmps w){o:Oper}{tk:Bool}(e:dB mkD (frD w) tab D o tk=some D'):
  ∃r w',(execOp a.eval o).run P w = .ok r w'∧Er cx D' a o w' r:=by
 unfold dB at e;split at e
 ·rename_i t p x b;split at e
  ·rename_i hd;split at e
   ·rename_i z hz;have k:a.eval x = .slice none 0 0:=by
     unfold ve at hz;split at hz
     ·rfl
     ·cases hz
    obtain⟨w',d,g⟩:=HF ok I e;rw[←k]at d;exact⟨.skip,w',by simp[execOp,b,d],.skip hd g⟩
   ·obtain⟨w',d,g⟩:=Oj ok I e;exact⟨.skip,w',by simp[execOp,b,d],.skip hd g⟩
  ·cases e
 ·rename_i t b;obtain⟨y,w',d,g⟩:=CR ok I e;exact⟨.value y,w',by simp[execOp,b,d],.value y g⟩
 ·rename_i t x b;obtain⟨y,w',d,g⟩:=Q2 (P:=P) (t:=t) I e;exact⟨.value y,w',by simp[execOp,b,d],.value y g⟩
 ·rename_i x b;split at e
  ·rename_i z hz;have k:a.eval x = .slice none 0 0:=by
    unfold ve at hz;split at hz
    ·rfl
    ·cases hz
   exact⟨.value (a.eval x),w,by simp[execOp,b],rV I (k ▸ Ia z) e⟩
  ·split at e
   ·rename_i rs u;exact⟨.value (a.eval x),w,by simp[execOp,b],rV I (Ip I u) e⟩
   ·split at e
    ·rename_i v hs;cases e;split at hs
     ·exact⟨.value (a.eval x),w,by simp[execOp,b],.value _ (JT I hs)⟩
     ·cases hs
    split at e
    ·exact⟨.value (a.eval x),w,by simp[execOp,b],.value _ (Io I e)⟩
    ·exact nC ok I e
 ·rename_i x b;split at e
  ·rename_i z hz;have k:a.eval x = .slice none 0 0:=by
    unfold ve at hz;split at hz
    ·rfl
    ·cases hz
   exact⟨.value (a.eval x),w,by simp[execOp,b],rV I (k ▸ Ia z) e⟩
  ·split at e
   ·exact⟨.value (a.eval x),w,by simp[execOp,b],.value _ (Io I e)⟩
   ·exact nC ok I e
 ·rename_i t x b;split at e
  ·obtain⟨y,d,g⟩:=Jh ok I b e;exact⟨.value y,w,d,.value _ g⟩
  ·exact nC ok I e
 ·rename_i x i b;obtain⟨y,d,g⟩:=ID (P:=P) I e;exact⟨.value y,w,by simp[execOp,b,d],.value y g⟩
 ·rename_i fn first caps b
  split at e
  case h_2=>cases e
  rename_i f;split at e
  case isFalse=>cases e
  rename_i h;rw[WA]at e;obtain⟨s,d,g⟩:=e;have hf:first = #[]:=by rw[←X7];exact h
  subst hf;exact⟨.value _,w,by simp[execOp,b,Instr.makeFunc],rV I (Q3 I d) g⟩
 ·rename_i t len j b;split at e
  ·obtain⟨y,w',d,g⟩:=CE ok I e;exact⟨.value y,w',by simp[execOp,b,d],.value y g⟩
  ·obtain⟨y,w',d,g⟩:=DH ok I e;exact⟨.value y,w',by simp[execOp,b,d],.value y g⟩
 ·rename_i t l c b;obtain⟨y,w',d,g⟩:=Fy ok I e;exact⟨.value y,w',by simp[execOp,b,d],.value y g⟩
 ·rename_i c b;split at e
  ·rename_i t t2 s x n;obtain⟨q1,A,B⟩:=Ke n;obtain⟨y,w',d,g⟩:=Kf (ty:=o.type) ok I e;refine⟨.value y,w',?_,.value y g⟩;simp[execOp,b,resolve,invoke,builtin,q1,A,B,d]
  ·exact nC ok I e
 ·rename_i C dst x b;split at e
  ·rename_i rows hb;rw[WA]at e;obtain⟨xs,d,g⟩:=e;have m:=Gd ok I hb d;exact⟨.value _,w,by simp[execOp,b,m],rV I (.one_v _ rfl) g⟩
  ·split at e
   ·rename_i v hs;cases e;obtain⟨y,w',d,g⟩:=HG ok I hs;exact⟨.value y,w',by simp[execOp,b,d],.value y g⟩
   ·exact nC ok I e
 ·rename_i t j b;split at e
  ·obtain⟨y,m,q⟩:=IB ok I e;exact⟨.value y,w,by simp[execOp,b,m],.value y q⟩
  ·rw[WA]at e;obtain⟨s,d,g⟩:=e;obtain⟨y,m,q⟩:=CU ok I d;exact⟨.value y,w,by simp[execOp,b,m],rV I q g⟩
 ·exact nC ok I e
end
mutual
def T.er:DT→T Unit| .v x=>.v x| .any=>.any| .s k _ z rows=>.s k () z (A6 rows)
def EN:List DT→List (T Unit)|[]=>[]|t::r=>t.er::EN r
def A6:List (List DT)→List (List (T Unit))|[]=>[]|r::rs=>EN r::A6 rs
end
abbrev erL:List DT→List (T Unit):=List.map T.er
theorem ST (r:List DT):EN r=erL r:=by
 induction r with
 |nil=>simp[EN]
 |cons t r a=>simp[EN,a]
theorem HX (r:List (List DT)):A6 r=r.map erL:=by
 induction r with
 |nil=>simp[A6]
 |cons t r a=>simp[A6,a,ST]
theorem aH (k:Kd)(d:Dec)(z:Nat)(rows:List (List DT)):(T.s k d z rows:DT).er = .s k () z (rows.map erL):=by rw[T.er,HX]
theorem dC (x:Value):(T.v x:DT).er = .v x:=rfl
theorem xK:(T.any:DT).er = .any:=rfl
def Sl.er:DSl→Sl Unit Unit| .any=>.any| .one t=>.one t.er| .agg ts=>.agg (erL ts)| .box _ ts=>.box () (erL ts)| .al h c st lo len=>.al h c st lo len| .pb h off=>.pb h off| .pe h c st i off=>.pe h c st i off| .im k _ ts off=>.im k () (erL ts) off| .fni f caps=>.fni f (caps.map fun p=>((),erL p.2))| .clo f hs=>.clo f hs| .tup rs=>.tup (rs.map fun r=>(r.1,erL r.2))
def erD (D:DSt):St Unit Unit:=D.map Sl.er
theorem TB (k:Kd)(t:DT):(t.kd k).er=t.er.kd k:=by
 cases t with
 |s k' d z r=>cases k'<;>simp[T.kd,aH]
 |_=>rfl
theorem OE (k:Kd)(t:DT):(t.view k).er=t.er.view k:=by
 cases t with
 |s k' d z r=>simp[T.view,aH]
 |_=>rfl
theorem dz (t:DT):t.er.isOwn=t.isOwn:=by
 cases t with
 |s k' d z r=>cases k'<;>simp[T.isOwn,aH]
 |_=>rfl
theorem ry (t:DT):t.er.fine=t.fine:=by
 cases t with
 |s k' d z r=>cases k'<;>simp[T.fine,aH]
 |_=>rfl
theorem xL (t:DT):t.er.flat=t.flat:=by
 cases t with
 |s k' d z r=>simp[T.flat,aH]
 |_=>rfl
theorem lH (t:DT):t.er.noLent=t.noLent:=by
 cases t with
 |s k' d z r=>cases k'<;>simp[T.noLent,aH]
 |_=>rfl
theorem er_dead (p:Nat→Nat→Bool)(t:DT):(t.dead p).er=t.er.dead p:=by
 cases t with
 |s k' d z r =>
  cases k' with
  |lent h c a=>simp only[T.dead,aH];split<;>simp[aH,xK]
  |_=>simp[T.dead,aH]
 |_=>rfl
theorem yY (p:Nat→Nat→Bool)(ts:List DT):erL (ts.map (T.dead p))=(erL ts).map (T.dead p):=by simp only[erL,Xk];exact Xi fun t _=>er_dead p t
theorem uN (k:Kd)(ts:List DT):erL (ts.map (T.view k))=(erL ts).map (T.view k):=by simp only[erL,Xk];exact Xi fun t _=>OE k t
theorem Sl.er_dead (p:Nat→Nat→Bool)(q:Nat→Nat→Bool→Bool)(s:DSl):(s.dead p q).er=s.er.dead p q:=by
 cases s with
 |one t=>simp[Sl.dead,Sl.er,Am.er_dead]
 |agg ts=>simp only[Sl.dead,Sl.er,yY]
 |box b ts=>simp only[Sl.dead,Sl.er,yY]
 |al h c st lo len=>by_cases e:q h c (!st.isEmpty)=true<;>simp[e,Sl.dead,Sl.er]
 |pe h c st lo len=>by_cases e:q h c (!st.isEmpty)=true<;>simp[e,Sl.dead,Sl.er]
 |im k b ts off =>
  cases k with
  |lent h c a=>by_cases e:p h c=true<;>simp[e,Sl.dead,Sl.er]
  |_=>simp[Sl.dead,Sl.er]
 |tup rs=>simp only[Sl.dead,Sl.er,Xk];congr 1;exact Xi fun r _=>by simp only[Function.comp,yY]
 |_=>rfl
theorem Sl.er_gone (t:Nat)(s:DSl):(s.gone t).er=s.er.gone t:=by
 cases s with
 |pb h off=>by_cases e:h=t<;>simp[e,Sl.gone,Sl.er]
 |clo f hs=>by_cases e:t∈hs<;>simp[e,Sl.gone,Sl.er]
 |_=>rfl
theorem mY (p:Nat→Nat→Bool)(q:Nat→Nat→Bool→Bool)(D:DSt):erD (St.dead p q D)=St.dead p q (erD D):=by simp only[St.dead,erD,Xk];exact Xi fun s _=>Sl.er_dead p q s
theorem fO (D:DSt):(erD D).length=D.length:=by simp[erD]
theorem cl (D:DSt)(t:Nat):(erD D)[t]?=(D[t]?).map Sl.er:=by simp[erD]
theorem ic (D:DSt)(t:Nat)(s:DSl):erD (D.set t s)=(erD D).set t s.er:=by simp[erD,YB]
theorem kv (t:Nat)(D:DSt):erD (bm t D)=bm t (erD D):=by unfold bm;rw[ic, ←mY];congr 1;simp only[erD,Xk];exact Xi fun s _=>Sl.er_gone t s
theorem SW (t:Nat)(s:DSl):(s.clean t).er=s.er.clean t:=by unfold Sl.clean;rw[Sl.er_gone,Sl.er_dead]
theorem cE (D:DSt)(dst:Option Nat)(s:DSl):erD (bj D dst s)=bj (erD D) dst s.er:=by
 cases dst with
 |none=>rfl
 |some t=>simp only[bj];rw[ic,kv,SW]
theorem Cw (D:DSt)(t:Nat)(s:DSl):erD (putA D t s)=putA (erD D) t s.er:=by
 unfold putA;rw[cl];cases h:D[t]? with
 |none=>exact cE D (some t) s
 |some x=>cases x<;>first|exact ic D t s|exact cE D (some t) s
theorem p8 (D:DSt)(dst:Option Nat)(s:DSl):e8 (erD D) dst s.er=(e8 D dst s).map erD:=by
 cases dst with
 |none=>rfl
 |some t=>simp only[e8,fO];split<;>simp[Cw]
theorem A9 (s:DSl):bh s.er=(bh s).map erL:=by cases s<;>simp[bh,Sl.er]
theorem M4 (cs:List DT)(s:DSl):(setCells cs s).er=setCells (erL cs) s.er:=by
 cases s with
 |one t=>cases cs<;>simp[setCells,Sl.er,xK]
 |_=>simp[setCells,Sl.er]
theorem lG (D:DSt)(h c:Nat):aw (erD D) h c=(aw D h c).map T.er:=by
 unfold aw;rw[cl];cases D[h]? with
 |none=>rfl
 |some s =>
  simp only[WB,Wy,A9];cases bh s with
  |none=>rfl
  |some cs=>simp
theorem KE (D:DSt)(h c:Nat)(t:DT):ia (erD D) h c t.er=(ia D h c t).map erD:=by
 unfold ia;rw[cl];cases D[h]? with
 |none=>rfl
 |some s =>
  simp only[WB,A9];cases bh s with
  |none=>rfl
  |some cs =>simp only[WB,ic,M4];simp[YB]
theorem xM:∀(st:List (Nat×Nat))(t:DT),getN t.er st=(getN t st).map T.er
 |[],t=>by simp[getN]
 |(i,c)::st,t=>by
  cases t with
  |v x=>rfl
  |any=>rfl
  |s k d z rows =>
   simp only[aH,getN,WQ];cases rows[i]? with
   |none=>rfl
   |some row =>
    simp only[WB,Wy,WQ];cases row[c]? with
    |none=>rfl
    |some u=>simp only[WB,Wy];exact xM st u
theorem OD {f:DT→Option DT}{f':T Unit→Option (T Unit)}(hf:∀t,f' t.er=(f t).map T.er):∀(st:List (Nat×Nat))(t:DT),gN f' t.er st=(gN f t st).map T.er
 |[],t=>by simp only[gN];exact hf t
 |(i,c)::st,t=>by
  cases t with
  |v x=>rfl
  |any=>rfl
  |s k d z rows =>
   simp only[aH,gN,WQ];cases rows[i]? with
   |none=>rfl
   |some row =>
    simp only[WB,Wy,WQ];cases row[c]? with
    |none=>rfl
    |some u =>
     simp only[WB,Wy];rw[OD hf st u];cases gN f u st with
     |none=>rfl
     |some u'=>simp[aH,YB]
theorem sQ (D:DSt)(h c:Nat)(st:List (Nat×Nat)):db (erD D) h c st=(db D h c st).map T.er:=by
 unfold db;rw[lG];cases aw D h c with
 |none=>rfl
 |some t=>simp only[WB,Wy];exact xM st t
theorem rz {f:DT→Option DT}{f':T Unit→Option (T Unit)}(hf:∀t,f' t.er=(f t).map T.er)(D:DSt)(h c:Nat)(st:List (Nat×Nat)):
  dL f' (erD D) h c st=(dL f D h c st).map erD:=by
 unfold dL;rw[lG];cases aw D h c with
 |none=>rfl
 |some t =>
  simp only[WB,Wy];rw[OD hf];cases gN f t st with
  |none=>rfl
  |some t'=>simp only[WB,Wy];exact KE D h c t'
theorem Rg (D:DSt)(t:Nat):uL (erD D) t=(uL D t).map Sl.er:=by
 unfold uL;rw[cl];cases D[t]? with
 |none=>rfl
 |some s =>
  cases s with
  |one u =>
   cases u with
   |s k d z rows=>cases k<;>simp[Sl.er,aH]
   |_=>rfl
  |agg ts =>
   simp only[WB,Sl.er,Xd,Sl.agg.injEq];apply XT;intro i;simp only[Yi,WQ,XD];cases ts[i]? with
   |none=>rfl
   |some u=>simp[TB]
  |_=>rfl
theorem Rl (D:DSt)(x:Operand):opd () (erD D) x=(opd nilD D x).map Sl.er:=by
 cases x with
 |tmp t=>exact Rg D t
 |const v =>
  simp only[opd];unfold Gf;split
  ·simp[Sl.er,aH]
  ·rfl
  ·split<;>simp[Sl.er,dC]
 |func f=>simp[opd,Sl.er]
 |global g=>rfl
theorem cN (D:DSt)(x:Operand):opd mkU.nil (erD D) x=(opd mkD.nil D x).map Sl.er:=Rl D x
theorem MX (D:DSt)(h o n:Nat):boxRange (erD D) h o n=(boxRange D h o n).map erL:=by
 unfold boxRange;rw[cl];cases D[h]? with
 |none=>rfl
 |some s =>
  cases s with
  |box b ts=>simp only[WB,Sl.er,W6];split<;>simp[Yv,Yw]
  |_=>rfl
theorem M3 (D:DSt)(h c:Nat)(st:List (Nat×Nat))(i o n:Nat):rowRange (erD D) h c st i o n=(rowRange D h c st i o n).map erL:=by
 unfold rowRange;rw[lG];cases aw D h c with
 |none=>rfl
 |some t =>
  simp only[WB,dz];split
  ·rw[xM];cases getN t st with
   |none=>rfl
   |some u =>
    cases u with
    |s k d z rows =>
     simp only[WB,aH,WQ];cases rows[i]? with
     |none=>rfl
     |some row=>simp only[WB,Wy,W6];split<;>simp[Yv,Yw]
    |_=>rfl
  ·rfl
theorem Rj (D:DSt)(ti:TI)(s:DSl):kD (erD D) ti s.er=(kD D ti s).map Sl.er:=by
 cases s with
 |pb h o =>
  simp only[Sl.er,kD,MX];cases boxRange D h o ti.size with
  |none=>rfl
  |some cs =>
   simp only[WB,Wy];split
   ·simp only[WB,Sl.er,Xd,Sl.agg.injEq];apply XT;intro i;simp only[Yi,WQ,XD];cases cs[i]? with
    |none=>rfl
    |some u=>simp[TB]
   ·match cs with
    |[]=>rfl
    |[u]=>
     cases u with
     |s k d z rows=>cases k<;>simp[erL,aH,Sl.er]
     |_=>rfl
    |u::v::r=>simp[erL]
 |pe h c st i o =>
  simp only[Sl.er,kD,M3];cases rowRange D h c st i o ti.size with
  |none=>rfl
  |some cs =>
   simp only[WB,Wy];split
   ·simp only[WB,Sl.er,uN]
   ·match cs with
    |[]=>rfl
    |[u]=>
     cases u with
     |s k d z rows=>cases k<;>simp[erL,aH,Sl.er,T.view]
     |_=>rfl
    |u::v::r=>simp[erL]
 |im k b ts o =>
  simp only[Sl.er,kD,W6];split
  ·split
   ·simp only[WB,Sl.er,uN,erL,Yv,Yw]
   ·simp only[erL, ←Yw, ←Yv]
    match(ts.drop o).take ti.size with
    |[]=>rfl
    |[u]=>simp[Sl.er,OE]
    |u::v::r=>rfl
  ·rfl
 |_=>rfl
theorem KA (D:DSt)(h c:Nat)(st:List (Nat×Nat)):qY (erD D) h c st=qY D h c st:=by
 unfold qY;rw[sQ];cases db D h c st with
 |none=>rfl
 |some t =>
  cases t with
  |s k d z rows=>simp[aH]
  |_=>rfl
theorem Pu (D:DSt)(tab:Tab)(t:Nat)(x:DSl)(lo hi:Option Int):mB mkU (erD D) tab t x.er lo hi=(mB mkD D tab t x lo hi).map Sl.er:=by
 cases x with
 |one u =>
  cases u with
  |v y =>
   cases y<;>simp only[Sl.er,dC,mB]<;>first|rfl|skip
   split
   ·split<;>simp[Sl.er,dC]
   ·rfl
  |any=>rfl
  |s k d z rows =>
   simp only[Sl.er,aH,mB,W6];split
   ·rfl
   ·split
    ·split
     ·split
      ·simp[Sl.er,aH,mkU]
      ·rfl
     ·rfl
    ·rfl
 |al h c st l len =>
  simp only[Sl.er,mB,KA];split
  ·split
   ·split<;>simp[Sl.er]
   ·rfl
  ·rfl
 |_=>rfl
theorem Gj (D:DSt)(tab:Tab)(t:Nat)(x:DSl)(i:Int):ju mkU (erD D) tab t x.er i=(ju mkD D tab t x i).map Sl.er:=by
 unfold ju;split
 ·cases x with
  |one u =>
   cases u with
   |v y=>rfl
   |any=>rfl
   |s k d z rows =>
    simp only[Sl.er,aH,WQ];split
    ·rfl
    ·split
     ·split
      ·cases rows[i.toNat]? with
       |none=>rfl
       |some row=>simp[Sl.er]
      ·rfl
     ·rfl
  |al h c st lo len =>
   simp only[Sl.er,KA];split
   ·split<;>simp[Sl.er]
   ·rfl
  |_=>rfl
 ·rfl
theorem Gi (tab:Tab)(t:Nat)(x:DSl)(f:Nat):mp tab t x.er f=(mp tab t x f).map Sl.er:=by
 unfold mp;split
 ·rename_i offs _;cases offs[f]? with
  |none=>rfl
  |some o=>cases x<;>rfl
 ·rfl
theorem S2 (tab:Tab)(t:Nat)(x:DSl):zr tab t x.er=zr tab t x:=by
 unfold zr;split
 ·cases x with
  |one u =>
   cases u with
   |s k d z rows=>simp[Sl.er,aH]
   |_=>rfl
  |_=>rfl
 ·cases x with
  |one u =>
   cases u with
   |s k d z rows=>simp[Sl.er,aH]
   |v y=>cases y<;>rfl
   |any=>rfl
  |_=>rfl
 ·rfl
theorem S4 (x:DSl):FG x.er=FG x:=by cases x<;>rfl
theorem Rm (D:DSt)(x:Option Operand):jV () (erD D) x=jV nilD D x:=by
 cases x with
 |none=>rfl
 |some x =>
  simp only[jV,Rl];cases opd nilD D x with
  |none=>rfl
  |some s =>
   cases s with
   |one u =>
    cases u with
    |s k d z rows=>simp[Sl.er,aH]
    |v y=>cases y<;>rfl
    |any=>rfl
   |_=>rfl
theorem Pp (D:DSt)(x:Option Operand):jV mkU.nil (erD D) x=jV mkD.nil D x:=Rm D x
theorem SY (tab:Tab)(D:DSt)(c:Call):EV mkU tab (erD D) c=(EV mkD tab D c).map Sl.er:=by
 unfold EV;split
 ·rename_i x t _ _ _;rw[cN];cases opd mkD.nil D x with
  |none=>rfl
  |some s =>
   simp only[WB,Wy,S2];cases zr tab t s with
   |none=>rfl
   |some n=>rfl
 ·rename_i x y _ _;simp only[cN];cases g:opd mkD.nil D x with
  |none=>rfl
  |some e =>
   cases h:opd mkD.nil D y with
   |none=>cases e with
    |one u=>cases u with
     |s k d z rows=>simp[Sl.er,aH]
     |v a=>cases a<;>rfl
     |any=>rfl
    |_=>rfl
   |some f =>
    cases e with
    |one u =>
     cases u with
     |s k d z rows=>simp[Sl.er,aH]
     |any=>rfl
     |v a =>
      cases f with
      |one v=>cases v with
       |s k d z rows=>cases a<;>simp[Sl.er,aH,dC]
       |any=>cases a<;>rfl
       |v b=>cases a<;>cases b<;>rfl
      |_=>cases a<;>rfl
    |_=>rfl
 ·rename_i x y _ _;simp only[cN];cases g:opd mkD.nil D x with
  |none=>rfl
  |some e =>
   cases h:opd mkD.nil D y with
   |none=>cases e with
    |one u=>cases u with
     |s k d z rows=>simp[Sl.er,aH]
     |v a=>cases a<;>rfl
     |any=>rfl
    |_=>rfl
   |some f =>
    cases e with
    |one u =>
     cases u with
     |s k d z rows=>simp[Sl.er,aH]
     |any=>rfl
     |v a =>
      cases f with
      |one v=>cases v with
       |s k d z rows=>cases a<;>simp[Sl.er,aH,dC]
       |any=>cases a<;>rfl
       |v b=>cases a<;>cases b<;>rfl
      |_=>cases a<;>rfl
    |_=>rfl
 ·rfl
theorem Uq (us:List DT)(off:Nat):(erL us)[off]?=(us[off]?).map T.er:=by simp[erL]
theorem EQ (tab:Tab)(us c:List DT):∀l,k8 tab (erL us) (erL c) l=k8 tab us c l
 |[]=>rfl
 |(off,e)::r=>by
  simp only[k8,Uq];cases tab.ti e with
  |none=>rfl
  |some ti =>
   cases us[off]? with
   |none=>rfl
   |some u =>
    cases c[off]? with
    |none=>cases u with
     |s k d z rows=>simp[aH]
     |_=>rfl
    |some v =>
     cases u with
     |s k d z rows=>simp[aH]
     |any=>rfl
     |v a =>
      cases v with
      |s k d z rows=>simp[aH,dC]
      |any=>rfl
      |v b=>simp only[WB,dC,EQ tab us c r]
theorem Uo (tab:Tab)(op:BinOp)(t:Nat)(us a:List DT):eqS tab op t (erL us) (erL a)=eqS tab op t us a:=by
 have:k8 tab (erL us) (erL a)=k8 tab us a:=funext fun l=>EQ tab us a l
 unfold eqS;rw[this]
theorem DN (tab:Tab)(D:DSt)(op:Op):cf mkU tab (erD D) op=(cf mkD tab D op).map Sl.er:=by
 cases op with
 |move x=>exact cN D x
 |assign x=>exact cN D x
 |pick c x y =>
  simp only[cf,cN];cases opd mkD.nil D c with
  |none=>rfl
  |some s =>
   cases s with
   |one u =>
    cases u with
    |s k d z rows=>simp[Sl.er,aH]
    |any=>rfl
    |v b=>(cases b<;>first|rfl|skip);rename_i b;cases b<;>rfl
   |_=>rfl
 |nilCheck x =>
  simp only[cf,cN];cases opd mkD.nil D x with
  |none=>rfl
  |some s=>simp only[WB,Wy,S4];split<;>rfl
 |binOp op t x y ty =>
  simp only[cf,cN];cases n:opd mkD.nil D x with
  |none=>rfl
  |some e =>
   cases o:opd mkD.nil D y with
   |none=>cases e with
    |one u=>cases u with
     |s k d z rows=>simp[Sl.er,aH]
     |v a=>first|rfl|(cases a<;>rfl)
     |any=>rfl
    |_=>rfl
   |some j =>
    cases e with
    |one u =>
     cases u with
     |s k d z rows=>simp[Sl.er,aH]
     |any=>rfl
     |v a =>
      cases j with
      |one v=>cases v with
       |s k d z rows=>first|(simp[Sl.er,aH,dC];done)|(cases a<;>simp[Sl.er,aH,dC])
       |any=>first|rfl|(cases a<;>rfl)
       |v b=>simp only[WB,Sl.er,dC,XD];rfl
      |_=>first|rfl|(cases a<;>rfl)
    |agg us =>
     cases j with
     |agg w =>simp only[WB,Sl.er,Uo,XD];rfl
     |one v=>cases v<;>rfl
     |_=>rfl
    |_=>rfl
 |unOp op t x =>
  simp only[cf,cN];cases opd mkD.nil D x with
  |none=>rfl
  |some s =>
   cases s with
   |one u =>
    cases u with
    |s k d z rows=>simp[Sl.er,aH]
    |any=>rfl
    |v b=>cases b<;>first|rfl|(cases op<;>rfl)
   |_=>rfl
 |convert p dst x =>
  simp only[cf,cN];cases opd mkD.nil D x with
  |none=>rfl
  |some s =>
   cases s with
   |one u =>
    cases u with
    |s k d z rows=>simp[Sl.er,aH]
    |any=>rfl
    |v b =>
     cases b<;>first|rfl|skip
     simp only[WB,Sl.er,dC];split<;>simp_all[Sl.er,dC]
   |_=>rfl
 |load t x =>
  simp only[cf,cN];cases opd mkD.nil D x with
  |none=>rfl
  |some s =>
   cases tab.ti t with
   |none=>rfl
   |some ti=>simp only[WB];split<;>first|rfl|exact Rj D ti s
 |fieldAddr t x f =>
  simp only[cf,cN];cases opd mkD.nil D x with
  |none=>rfl
  |some s=>simp only[WB,Wy];exact Gi tab t s f
 |indexAddr t x i =>
  simp only[cf,cN];cases n:opd mkD.nil D x with
  |none=>rfl
  |some e =>
   cases hi:opd mkD.nil D i with
   |none=>rfl
   |some q =>
    cases q with
    |one u =>
     cases u with
     |s k d z rows=>simp[Sl.er,aH]
     |any=>rfl
     |v b =>
      cases b<;>first|rfl|skip
      exact Gj D tab t e _
    |_=>rfl
 |index t x y =>
  simp only[cf,cN];cases n:opd mkD.nil D x with
  |none=>rfl
  |some e =>
   cases o:opd mkD.nil D y with
   |none=>cases e with
    |one u=>cases u with
     |s k d z rows=>simp[Sl.er,aH]
     |v a=>cases a<;>rfl
     |any=>rfl
    |clo g hs=>cases g<;>rfl
    |_=>rfl
   |some j =>
    cases e with
    |clo g hs =>
     cases g with
     |fn f=>rfl
     |arr offs =>
      cases j with
      |one v=>cases v with
       |s k d z rows=>simp[Sl.er,aH]
       |any=>rfl
       |v b =>
        cases b<;>first|rfl|skip
        simp only[WB,Sl.er,dC];split
        ·split<;>simp_all[Sl.er]
        ·rfl
      |_=>rfl
    |one u =>
     cases u with
     |s k d z rows=>simp[Sl.er,aH]
     |any=>rfl
     |v a =>
      cases a<;>first|rfl|skip
      cases j with
      |one v=>cases v with
       |s k d z rows=>simp[Sl.er,aH,dC]
       |any=>rfl
       |v b =>
        cases b<;>first|rfl|skip
        simp only[WB,Sl.er,dC];split
        ·split<;>simp[Sl.er,dC]
        ·rfl
      |_=>rfl
    |_=>rfl
 |slice t x lo hi r =>
  cases r with
  |some m=>rfl
  |none =>
   simp only[cf,cN,Pp];cases n:opd mkD.nil D x with
   |none=>rfl
   |some e =>
    cases jV mkD.nil D lo with
    |none=>rfl
    |some l =>
     cases jV mkD.nil D hi with
     |none=>rfl
     |some h=>exact Pu D tab t e l h
 |call c=>exact SY tab D c
 |_=>rfl
theorem KF (k:Kd)(d:Dec)(z lo len:Nat)(rows:List (List DT)):(T.s k (mkD.win d lo z) z ((rows.drop lo).take len):DT).er = .s k (mkU.win () lo z) z (((rows.map erL).drop lo).take len):=by rw[aH,Yv,Yw];try rfl
theorem k9 (D:DSt)(x:Operand):cellsCopy mkU (erD D) x=(cellsCopy mkD D x).map fun p=>(p.1,erL p.2):=by
 simp only[cellsCopy,cN];cases opd mkD.nil D x with
 |none=>rfl
 |some s =>
  cases s with
  |al h c st lo len =>
   simp only[WB,Sl.er,sQ];split
   ·cases db D h c st with
    |none=>rfl
    |some t =>
     cases t with
     |s k d z rows=>simp only[WB,aH];rw[←KF];rfl
     |_=>rfl
   ·rfl
  |_=>rfl
theorem jP (f:DT→Bool)(g:T Unit→Bool)(h:∀t,g t.er=f t)(ts:List DT):(erL ts).all g=ts.all f:=by simp only[erL,XI];congr 1;funext t;exact h t
theorem jQ (D:DSt)(x:Operand):cellsTake mkU (erD D) x=(cellsTake mkD D x).map fun p=>(p.1,erL p.2.1,erD p.2.2):=by
 cases x with
 |tmp t =>
  simp only[cellsTake,cl];cases D[t]? with
  |none=>rfl
  |some s =>
   cases s with
   |one u=>simp only[WB,Sl.er,dz];split<;>simp[kv]
   |agg ts =>simp only[WB,Sl.er,jP T.noLent T.noLent lH];split<;>simp[kv]
   |al h c st lo len =>
    simp only[WB,Sl.er,sQ];split
    ·cases db D h c st with
     |none=>rfl
     |some n =>
      cases n with
      |s k d z rows =>
       cases k with
       |own =>
        simp only[WB,aH];rw[←mY,rz (f:=fun _=>some .any) (f':=fun _=>some .any) (fun t=>rfl)];cases dL (fun _=>some .any) (St.dead (dv h c) (qHC h c) D) h c st with
        |none=>rfl
        |some D'=>simp only[WB];rw[←KF];rfl
       |_=>simp[aH]
      |_=>rfl
    ·rfl
   |_=>rfl
 |_=>rfl
theorem EP (D:DSt)(x:Operand)(tk:Bool):cellsOf mkU (erD D) x tk=(cellsOf mkD D x tk).map fun p=>(p.1,erL p.2.1,erD p.2.2):=by
 unfold cellsOf;split
 ·exact jQ D x
 ·rw[k9];cases cellsCopy mkD D x<;>rfl
theorem xO (g:Bool)(ts:List DT):(jm g (erL ts):Option (Sl Unit Unit))=(jm g ts:Option DSl).map Sl.er:=by
 cases g with
 |true=>rfl
 |false =>
  match ts with
  |[]=>rfl
  |[t]=>rfl
  |t::u::r=>rfl
theorem m4 (l:List DT)(o:Nat)(new:List DT):erL (au l o new)=au (erL l) o (erL new):=by simp[au,erL,XB,Yv,Yw]
theorem Rr (i off:Nat)(us:List DT)(t:DT):setRow i off (erL us) t.er=(setRow i off us t).map T.er:=by
 cases t with
 |s k d z rows =>
  simp only[aH,setRow,WQ];cases rows[i]? with
  |none=>rfl
  |some row =>
   simp only[WB,Wy,W6];split
   ·simp only[WB,aH,YB,m4]
   ·rfl
 |_=>rfl
theorem ET (D:DSt)(p:DSl)(us:List DT):jN (erD D) p.er (erL us)=(jN D p us).map erD:=by
 cases p with
 |pb h off =>
  simp only[Sl.er,jN,cl];cases D[h]? with
  |none=>rfl
  |some s =>
   cases s with
   |box b ts =>
    simp only[WB,Sl.er,W6];split
    ·simp only[WB,ic,Sl.er,m4,mY,yY]
    ·rfl
   |_=>rfl
 |pe h c st i off =>
  simp only[Sl.er,jN,jP T.fine T.fine ry,lG];split
  ·cases aw D h c with
   |none=>rfl
   |some t =>
    simp only[WB,dz,xM];split
    ·cases getN t st with
     |none=>rfl
     |some n =>
      cases n with
      |s k d z rows =>
       simp only[WB,aH,WQ];cases rows[i]? with
       |none=>rfl
       |some row =>
        simp only[WB,W6];split
        ·have e:(((erL row).drop off).take us.length).all T.flat=((row.drop off).take us.length).all T.flat:=by rw[←jP T.flat T.flat xL];simp[erL,Yv,Yw]
         rw[e, ←mY];exact rz (fun t=>Rr i off us t) _ h c st
        ·rfl
      |_=>rfl
    ·rfl
  ·rfl
 |_=>rfl
theorem Pv (tab:Tab)(D:DSt)(t:Nat)(p x:Operand)(tk:Bool):sg mkU tab (erD D) t p x tk=(sg mkD tab D t p x tk).map erD:=by
 simp only[sg,EP];cases tab.ti t with
 |none=>rfl
 |some ti =>
  cases cellsOf mkD D x tk with
  |none=>rfl
  |some r =>
   obtain⟨g,us,D1⟩:=r;simp only[WB,W6];split
   ·rw[cN];cases opd mkD.nil D1 p with
    |none=>rfl
    |some q=>simp only[WB,Wy];exact ET D1 q us
   ·rfl
theorem Kz (t:T Unit):(t.inj nilD).er=t.inj ():=by
 cases t with
 |s k d z rows=>simp[T.inj,aH]
 |_=>rfl
theorem Pi (w:World)(tab:Tab)(D:DSt)(dst:Option Nat)(t:Nat):pW mkU frU tab (erD D) dst t=(pW mkD (frD w) tab D dst t).map erD:=by
 simp only[pW];cases tab.ti t with
 |none=>rfl
 |some ti =>
  cases dst with
  |none=>rfl
  |some d =>
   simp only[fO];split
   ·simp only[WB,cE,Sl.er,erL,Xk];have e:ti.zero.map (T.inj mkU.nil)=ti.zero.map (T.er ∘ T.inj mkD.nil):=Xi fun t _=>(Kz t).symm
    rw[e]
   ·rfl
theorem SU (w:World)(D:DSt)(dst:Option Nat)(x:Operand)(tk:Bool):Cv mkU frU (erD D) dst x tk=(Cv mkD (frD w) D dst x tk).map erD:=by
 simp only[Cv,EP];cases cellsOf mkD D x tk with
 |none=>rfl
 |some r =>
  obtain⟨g,us,D1⟩:=r;cases dst with
  |none=>rfl
  |some d =>
   simp only[WB,fO];split
   ·simp only[WB,cE,Sl.er];try rfl
   ·rfl
theorem C1 (D:DSt)(x:Operand)(dst:Option Nat):
  ((cellsTake mkU (erD D) x).bind fun r=>match dst with|some t=>if t<r.2.2.length then(jm r.1 r.2.1).map fun s=>bj r.2.2 (some t) s else none|none=>none)=
   ((cellsTake mkD D x).bind fun r=>match dst with|some t=>if t<r.2.2.length then(jm r.1 r.2.1).map fun s=>bj r.2.2 (some t) s else none|none=>none).map erD:=by
 rw[jQ];cases cellsTake mkD D x with
 |none=>rfl
 |some r =>
  obtain⟨g,us,D1⟩:=r;cases dst with
  |none=>rfl
  |some d =>
   simp only[WB,Wy,fO,xO];split
   ·cases(jm g us:Option DSl)with
    |none=>rfl
    |some s=>simp only[WB,cE]
   ·rfl
theorem M2 (tab:Tab)(D:DSt)(t:Nat)(x:Operand):lY mkU tab (erD D) t x=(lY mkD tab D t x).map fun r=>(r.1,erL r.2.1,erD r.2.2):=by
 unfold lY;rw[cN];cases tab.ti t with
 |none=>rfl
 |some ti =>
  cases a:opd mkD.nil D x with
  |none=>rfl
  |some s =>
   cases s with
   |pb h off =>
    cases off with
    |zero =>
     simp only[WB,Sl.er,cl];cases D[h]? with
     |none=>rfl
     |some u =>
      cases u with
      |box b ts =>
       simp only[WB,Sl.er,W6];have e:(erL ts).all T.noLent=ts.all T.noLent:=by
        rw[XI];congr 1;funext u;cases u with
        |s k d z r=>cases k<;>simp[aH,T.noLent]
        |_=>rfl
       rw[e];split
       ·simp[kv]
       ·rfl
      |_=>rfl
    |succ n=>rfl
   |one u=>simp[Sl.er]
   |_=>rfl
theorem M1 (tab:Tab)(D:DSt)(t:Nat)(x:Operand)(dst:Option Nat):
  ((lY mkU tab (erD D) t x).bind fun r=>match dst with|some t=>if t<r.2.2.length then(jm r.1 r.2.1).map fun s=>bj r.2.2 (some t) s else none|none=>none)=
   ((lY mkD tab D t x).bind fun r=>match dst with|some t=>if t<r.2.2.length then(jm r.1 r.2.1).map fun s=>bj r.2.2 (some t) s else none|none=>none).map erD:=by
 rw[M2];cases lY mkD tab D t x with
 |none=>rfl
 |some r =>
  obtain⟨g,us,D1⟩:=r;cases dst with
  |none=>rfl
  |some d =>
   simp only[WB,Wy,fO,xO];split
   ·cases(jm g us:Option DSl)with
    |none=>rfl
    |some s=>simp only[WB,cE]
   ·rfl
theorem mo (tab:Tab)(D:DSt)(op:Op)(dst:Option Nat):((cf mkU tab (erD D) op).bind fun s=>e8 (erD D) dst s)=((cf mkD tab D op).bind fun s=>e8 D dst s).map erD:=by
 rw[DN];cases cf mkD tab D op with
 |none=>rfl
 |some s=>simp only[WB,Wy];exact p8 D dst s
theorem A8 (D:DSt)(z:Nat):∀(a:List (Nat×Operand))(rows:List (List DT)),lE mkU (erD D) z a (rows.map erL)=(lE mkD D z a rows).map (List.map erL)
 |[],rows=>rfl
 |(i,x)::r,rows=>by
  simp only[lE,k9];cases cellsCopy mkD D x with
  |none=>rfl
  |some b =>
   obtain⟨g,us⟩:=b;simp only[WB,W6,jP T.fine T.fine ry];split
   ·have e:(rows.map erL).set i (erL us)=(rows.set i us).map erL:=by rw[YB]
    rw[e];exact A8 D z r _
   ·rfl
theorem rA (ti:TI):ti.zero.map (T.inj mkU.nil)=erL (ti.zero.map (T.inj mkD.nil)):=by simp only[erL,Xk];exact Xi fun t _=>(Kz t).symm
theorem vP (w:World)(tab:Tab)(D:DSt)(dst:Option Nat)(t len:Nat)(a:List (Nat×Operand)):fm mkU frU tab (erD D) dst t len a=(fm mkD (frD w) tab D dst t len a).map erD:=by
 unfold fm;split
 ·rename_i sz c h e d f;cases tab.ti e with
  |none=>rfl
  |some b =>
   simp only[fO];split
   ·have g:List.replicate len (b.zero.map (T.inj mkU.nil))=(List.replicate len (b.zero.map (T.inj mkD.nil))).map erL:=by rw[Zd,rA]
    rw[g,A8];cases lE mkD D b.size a (List.replicate len (b.zero.map (T.inj mkD.nil)))with
    |none=>rfl
    |some rows=>simp only[WB,cE,Sl.er,aH]
   ·rfl
 ·rfl
theorem Pn (s:DSl):intOfSl s.er=intOfSl s:=by
 cases s with
 |one u =>
  cases u with
  |s k d z r=>simp[Sl.er,aH,intOfSl]
  |v x=>cases x<;>rfl
  |any=>rfl
 |_=>rfl
theorem KB (D:DSt)(x:Operand):(opd mkU.nil (erD D) x).bind intOfSl=(opd mkD.nil D x).bind intOfSl:=by
 rw[cN];cases opd mkD.nil D x with
 |none=>rfl
 |some s=>exact Pn s
theorem xN (w:World)(tab:Tab)(D:DSt)(dst:Option Nat)(t:Nat)(l c:Operand):fo mkU frU tab (erD D) dst t l c=(fo mkD (frD w) tab D dst t l c).map erD:=by
 unfold fo;rw[KB,KB];split
 ·rename_i sz b h e d n k f i hc;cases tab.ti e with
  |none=>rfl
  |some a =>
   simp only[fO];split
   ·split
    ·have g:List.replicate n.toNat (a.zero.map (T.inj mkU.nil))=(List.replicate n.toNat (a.zero.map (T.inj mkD.nil))).map erL:=by rw[Zd,rA]
     rw[g];simp only[WB,cE,Sl.er,aH]
    ·rfl
   ·rfl
 ·rfl
theorem TW (t:DT):t.hole.er=t.er.hole:=by
 cases t with
 |s k d z r=>cases k<;>simp[T.hole,aH,xK]
 |_=>rfl
theorem Kv (D:DSt)(dst:Option Nat)(x:Operand)(i:Nat):qa (erD D) dst x i=(qa D dst x i).map erD:=by
 cases x with
 |tmp t =>
  cases dst with
  |none=>rfl
  |some d =>
   simp only[qa,cl];cases D[t]? with
   |none=>rfl
   |some s =>
    cases s with
    |tup rs =>
     simp only[WB,Sl.er,WQ];cases rs[i]? with
     |none=>rfl
     |some r =>
      obtain⟨g,ts⟩:=r;simp only[WB,fO,jP T.noLent T.noLent lH];split
      ·rw[xO];cases(jm g ts:Option DSl)with
       |none=>rfl
       |some s =>
        simp only[WB,cE,ic,Sl.er,YB];have e:erL (ts.map T.hole)=(erL ts).map T.hole:=by simp only[erL,Xk];exact Xi fun t _=>TW t
        rw[e]
      ·rfl
    |_=>rfl
 |_=>cases dst<;>rfl
theorem mf (D:DSt)(pl:List (Nat×Nat)):∀(a:List (Nat×Operand))(ts:List DT),cJ mkU (erD D) pl a (erL ts)=(cJ mkD D pl a ts).map erL
 |[],ts=>rfl
 |(i,x)::r,ts=>by
  simp only[cJ,k9];cases pl[i]? with
  |none=>rfl
  |some q =>
   obtain⟨off,size⟩:=q;cases cellsCopy mkD D x with
   |none=>rfl
   |some b =>
    obtain⟨g,us⟩:=b;simp only[WB,W6];split
    ·rw[←m4];exact mf D pl r _
    ·rfl
theorem EO (tab:Tab)(D:DSt)(t:Nat)(a:List (Nat×Operand)):nA mkU tab (erD D) t a=(nA mkD tab D t a).map Sl.er:=by
 simp only[nA];cases tab.ti t with
 |none=>rfl
 |some ti =>
  cases tab.pl t with
  |none=>rfl
  |some pl =>
   have e:ti.zero.map (T.inj mkU.nil)=erL (ti.zero.map (T.inj mkD.nil)):=by simp only[erL,Xk];exact Xi fun t _=>(Kz t).symm
   simp only;rw[e,mf];cases cJ mkD D pl a (ti.zero.map (T.inj mkD.nil))<;>rfl
theorem y4 (D:DSt)(x:Operand):mn (erD D) x=mn D x:=by
 cases x with
 |tmp t =>
  simp only[mn,cl];cases D[t]? with
  |none=>rfl
  |some s =>
   cases s with
   |pb h off=>cases off<;>rfl
   |_=>rfl
 |_=>rfl
theorem C0 (D:DSt):∀(xs:List Operand),pA (erD D) xs=pA D xs
 |[]=>rfl
 |x::xs=>by simp only[pA,y4,C0 D xs]
theorem SX (D:DSt)(f:FuncId)(xs:List Operand):yS (erD D) f xs=(yS D f xs).map Sl.er:=by unfold yS;rw[C0,XD];rfl
theorem Ph (rows:List (List DT)):(rows.map erL).all (fun r=>r.all T.flat)=rows.all (fun r=>r.all T.flat):=by rw[XI];congr 1;funext r;show(erL r).all T.flat=_;rw[XI];congr 1;funext t;exact xL t
theorem TT (D:DSt)(b:Bool)(x:Operand):yR mkU (erD D) b x=(yR mkD D b x).map fun p=>(p.1,p.2.1.map erL,erD p.2.2):=by
 unfold yR;cases b with
 |true =>
  simp only[k9];cases cellsCopy mkD D x with
  |none=>rfl
  |some r =>
   obtain⟨g,ts⟩:=r;cases g with
   |true=>rfl
   |false =>
    match ts with
    |[]=>rfl
    |[.v v]=>rfl
    |[.any]=>rfl
    |u::v::r=>(cases u with|s k d z e=>simp[aH]|_=>rfl)
    |[.s i f z2 a]=>simp only[WB,WT,Xc,aH,Ph];split<;>rfl
 |false =>
  simp only[jQ];cases cellsTake mkD D x with
  |none=>rfl
  |some r =>
   obtain⟨g,ts,j⟩:=r;cases g with
   |true=>rfl
   |false =>
    match ts with
    |[]=>rfl
    |[.v v]=>rfl
    |[.any]=>rfl
    |[.s .far d z rows]=>simp[aH]
    |[.s (.lent h c b) d z rows]=>simp[aH]
    |u::v::r=>(cases u with|s k d z e=>(cases k<;>simp[aH])|_=>rfl)
    |[.s .own f z2 a]=>simp[aH]
theorem MW (w:World)(tab:Tab)(D:DSt)(dst:Option Nat)(t t2:Nat)(s x:Operand):mV mkU frU tab (erD D) dst t t2 s x=(mV mkD (frD w) tab D dst t t2 s x).map erD:=by
 unfold mV;rw[jQ];cases hs:cellsTake mkD D s with
 |none =>
  cases tab.ti t with
  |none=>rfl
  |some ti =>
   obtain⟨_,_,_,sh⟩:=ti;cases sh<;>try rfl
   cases tab.ti t2 with
   |none=>rfl
   |some a =>
    obtain⟨_,_,_,b⟩:=a;cases b<;>try rfl
    cases dst<;>rfl
 |some r =>
  obtain⟨g,ts,D1⟩:=r;cases tab.ti t with
  |none=>rfl
  |some ti =>
   obtain⟨_,_,_,sh⟩:=ti;cases sh<;>try rfl
   rename_i e;cases tab.ti t2 with
   |none=>rfl
   |some a =>
    obtain⟨_,_,_,b⟩:=a;cases b<;>try rfl
    cases dst with
    |none=>rfl
    |some l =>
     cases g with
     |true=>rfl
     |false =>
      match ts with
      |[]=>rfl
      |[.v v]=>rfl
      |[.any]=>rfl
      |[.s .far d z rows]=>simp[aH]
      |[.s (.lent h c m) d z rows]=>simp[aH]
      |u::v::r=>(cases u with|s k d z n=>(cases k<;>simp[aH])|_=>rfl)
      |[.s .own d z rows]=>
       simp only[WB,WT,Xc,aH];cases tab.ti e with
       |none=>rfl
       |some i =>
        simp only[TT];cases yR mkD D1 (i.zero.all T.flat) x with
        |none=>rfl
        |some j =>
         obtain⟨z2,f,o⟩:=j;simp only[WB,fO,W6];split
         ·split
          ·simp only[WB,cE,Sl.er,aH,XB]
          ·rfl
         ·rfl
theorem Ba:∀(rows:List (List DT)),ey (rows.map erL)=ey rows
 |[]=>rfl
 |r::rs=>by
  match r with
  |[]=>rfl
  |u::v::q =>
   cases u with
   |v x =>
    cases x with
    |int k n=>cases k<;>simp[ey,dC]
    |_=>simp[ey,dC]
   |any=>simp[ey,xK]
   |s k d z r=>simp[ey,aH]
  |[.any]=>rfl
  |[.s k d z rows]=>simp[aH,ey]
  |[.v (.int .u8 n)]=>simp only[WT,Xc,dC,ey,Ba rs]
  |[.v x]=>
   cases x with
   |int k n=>cases k<;>first|rfl|simp only[WT,Xc,dC,ey,Ba rs]
   |_=>rfl
theorem MY (tab:Tab)(D:DSt)(a dst:Nat)(x:Operand):mW mkU tab (erD D) a dst x=(mW mkD tab D a dst x).map (List.map erL):=by
 unfold mW;rw[k9];cases tab.ti a with
 |none=>rfl
 |some ti =>
  obtain⟨_,_,_,sh⟩:=ti;cases sh<;>try rfl
  rename_i e;cases tab.ti dst with
  |none=>rfl
  |some b =>
   obtain⟨_,_,_,c⟩:=b;cases c<;>try rfl
   cases cellsCopy mkD D x with
   |none=>rfl
   |some r =>
    obtain⟨g,ts⟩:=r;cases g with
    |true=>rfl
    |false =>
     match ts with
     |[]=>rfl
     |[.v v]=>rfl
     |[.any]=>rfl
     |u::v::r=>(cases u with|s k d z f=>simp[aH]|_=>rfl)
     |[.s k d z rows]=>
      simp only[WB,WT,Xc,aH];by_cases hz:z=1
      ·subst hz;simp only;split
       ·rfl
       ·rfl
      ·simp[hz]
theorem EU (D:DSt)(x:Operand):ko (erD D) x=(ko D x).map (List.map fun r=>(r.1,erL r.2)):=by
 unfold ko;cases x with
 |tmp t =>
  simp only[cl];cases D[t]? with
  |none=>rfl
  |some s =>
   cases s with
   |tup rs =>
    simp only[WB,Sl.er];have a:((rs.map fun r=>(r.1,erL r.2)).all fun r=>r.2.all T.flat)=rs.all fun r=>r.2.all T.flat:=by rw[XI];congr 1;funext r;show(erL r.2).all T.flat=_;rw[XI];congr 1;funext u;exact xL u
    have b:(rs.map fun r=>(r.1,erL r.2))≠[]↔rs≠[]:=by cases rs<;>simp
    by_cases h:(rs.all fun r=>r.2.all T.flat)=true∧rs≠[]
    ·rw[Wz h,Wz ⟨a.trans h.1,b.2 h.2⟩];rfl
    ·rw[WM h,WM (fun g=>h ⟨a.symm.trans g.1,b.1 g.2⟩)];rfl
   |_=>rfl
 |_=>rfl
theorem Px (D:DSt)(x:Operand)(dst:Option Nat):ot (erD D) x dst=(ot D x dst).map erD:=by
 cases x with
 |tmp t =>
  cases dst with
  |none=>rfl
  |some d =>
   simp only[ot,cl];cases D[t]? with
   |none=>rfl
   |some s =>
    cases s with
    |tup rs =>
     simp only[WB,Sl.er,fO];have a:((rs.map fun r=>(r.1,erL r.2)).all fun r=>r.2.all T.noLent)=rs.all fun r=>r.2.all T.noLent:=by rw[XI];congr 1;funext r;exact jP T.noLent T.noLent lH r.2
     rw[a];split
     ·simp only[WB,cE,ic,Sl.er]
     ·rfl
    |_=>rfl
 |_=>cases dst<;>rfl
theorem Pw (s:Zz):(km s:List (List DT)).map erL=km s:=by unfold km;rw[Xk];exact Xi fun b _=>by simp[dC]
theorem IC (w:World)(tab:Tab)(D:DSt)(dst:Option Nat)(a t:Nat)(x:Operand):iy mkU frU tab (erD D) dst a t x=(iy mkD (frD w) tab D dst a t x).map erD:=by
 unfold iy;rw[cN];cases tab.ti a with
 |none=>rfl
 |some ti =>
  obtain⟨_,_,_,sh⟩:=ti;cases sh<;>try rfl
  cases tab.ti t with
  |none=>rfl
  |some b =>
   obtain⟨_,_,_,c⟩:=b;cases c<;>try rfl
   rename_i e;cases dst with
   |none=>rfl
   |some d =>
    cases f:opd mkD.nil D x with
    |none=>rfl
    |some s =>
     cases s with
     |one u =>
      cases u with
      |v y =>
       cases y with
       |string s =>
        simp only[WB,Sl.er,dC,fO];split
        ·split
         ·simp only[WB,cE,Sl.er,aH,Pw]
         ·rfl
        ·rfl
       |_=>rfl
      |any=>rfl
      |s k g z r=>simp[Sl.er,aH]
     |_=>rfl
theorem M5 (tab:Tab)(D:DSt)(t:Nat)(p:Operand)(z:Nat):pV mkU tab (erD D) t p z=(pV mkD tab D t p z).map erD:=by
 unfold pV;cases tab.ti t with
 |none=>rfl
 |some ti =>
  simp only;split
  ·rw[cN];cases opd mkD.nil D p with
   |none=>rfl
   |some a=>exact ET D a [.s .own nilD z []]
  ·rfl
theorem Pq (us:List DT):(erL us).all (fun u=>u.isOwn ||u.flat)=us.all (fun u=>u.isOwn ||u.flat):=by show(us.map T.er).all _=_;rw[XI];congr 1;funext u;show(u.er.isOwn ||u.er.flat)=_;rw[dz,xL]
theorem Gh (w:World)(tab:Tab)(D:DSt)(dst:Option Nat)(t len:Nat)(a:List (Nat×Operand)):kL mkU frU tab (erD D) dst t len a=(kL mkD (frD w) tab D dst t len a).map erD:=by
 unfold kL;split
 ·rename_i sz b f e d x c;simp only[jQ];cases tab.ti e with
  |none=>rfl
  |some h =>
   cases cellsTake mkD D x with
   |none=>rfl
   |some r =>
    obtain⟨g,us,D1⟩:=r;simp only[WB,fO,W6,Pq];split
    ·simp only[WB,cE,Sl.er,aH,WT,Xc]
    ·rfl
 ·rfl
theorem Rf (tab:Tab)(D:DSt)(dst:Option Nat)(t:Nat)(a:List (Nat×Operand)):qt mkU tab (erD D) dst t a=(qt mkD tab D dst t a).map erD:=by
 unfold qt;split
 ·rename_i ti pl i x r d b c;simp only[jQ];cases pl[i]? with
  |none=>rfl
  |some os =>
   obtain⟨off,size⟩:=os;cases cellsTake mkD D x with
   |none=>rfl
   |some q =>
    obtain⟨g,us,D1⟩:=q;simp only[WB,fO,W6];split
    ·have e:au (ti.zero.map (T.inj mkU.nil)) off (erL us)=erL (au (ti.zero.map (T.inj mkD.nil)) off us):=by rw[rA,m4]
     rw[e,mf];cases cJ mkD D1 pl r (au (ti.zero.map (T.inj mkD.nil)) off us)with
     |none=>rfl
     |some ts=>simp only[WB,cE,Sl.er]
    ·rfl
 ·rfl
theorem Ps (D:DSt)(x:Operand):rS (erD D) x=rS D x:=by
 cases x with
 |tmp t =>
  simp only[rS,cl];cases D[t]? with
  |none=>rfl
  |some s =>
   simp only[WB];have a:∀ts:List DT,(erL ts).any T.isOwn=ts.any T.isOwn:=fun ts=>by rw[erL,Y8];congr 1;funext t;exact dz t
   cases s with
   |one t=>exact dz t
   |agg ts=>exact a ts
   |tup rs =>simp only[Sl.er,Sl.isHome,Y8];congr 1;funext r;exact a r.2
   |_=>rfl
 |_=>rfl
theorem Pj (tab:Tab)(D:DSt)(dst:Option Nat)(t:Nat)(a:List (Nat×Operand)):uw mkU tab (erD D) dst t a=(uw mkD tab D dst t a).map erD:=by
 unfold uw;simp only[Ps];split
 ·rename_i ti pl i x r d c e f;simp only[jQ,rA,mf];cases pl[i]? with
  |none=>rfl
  |some os =>
   obtain⟨off,size⟩:=os;cases cellsTake mkD D x with
   |none=>rfl
   |some q =>
    obtain⟨g,us,D1⟩:=q;cases cJ mkD D pl (a.takeWhile (fun p => !rS D p.2)) (ti.zero.map (T.inj mkD.nil))with
    |none=>rfl
    |some b =>
     simp only[WB,fO,W6,jP T.noLent T.noLent lH];split
     ·rw[←m4,mf];cases cJ mkD D1 pl r (au b off us)with
      |none=>rfl
      |some ts=>simp only[WB,cE,Sl.er]
     ·rfl
 ·rfl
theorem Pk (tab:Tab)(D:DSt)(dst:Option Nat)(t:Nat)(a:List (Nat×Operand)):pX mkU tab (erD D) dst t a=(pX mkD tab D dst t a).map erD:=by unfold pX;rw[Rf,Pj];cases qt mkD tab D dst t a<;>rfl
theorem S6 (w:World)(tab:Tab)(D:DSt)(o:Oper)(tk:Bool):dB mkU frU tab (erD D) o tk=(dB mkD (frD w) tab D o tk).map erD:=by
 obtain⟨dst,op,ty,pos,after,guard⟩:=o;cases op with
 |store t p x =>
  cases dst with
  |none =>
   simp only[dB];cases ve tab t x with
   |some z=>exact M5 tab D t p z
   |none=>exact Pv tab D t p x tk
  |some d=>rfl
 |alloc t=>exact Pi w tab D dst t
 |box t x=>exact SU w D dst x tk
 |move x =>
  simp only[dB];cases ve tab ty x with
  |some z=>exact p8 D dst (.one (.s .own nilD z []))
  |none =>
   simp only[EU];cases ko D x with
   |some rs=>exact p8 D dst (.tup rs)
   |none =>
    cases tk with
    |true =>
     simp only[W8,Px];cases ot D x dst with
     |some D'=>rfl
     |none=>exact C1 D x dst
    |false=>exact mo tab D (.move x) dst
 |assign x =>
  simp only[dB];cases ve tab ty x with
  |some z=>exact p8 D dst (.one (.s .own nilD z []))
  |none =>
   cases tk with
   |true=>exact C1 D x dst
   |false=>exact mo tab D (.assign x) dst
 |load t x =>
  cases tk with
  |true=>exact M1 tab D t x dst
  |false=>exact mo tab D (.load t x) dst
 |extract x i=>exact Kv D dst x i
 |buildSlice t len a =>
  cases tk with
  |true=>exact Gh w tab D dst t len a.toList
  |false=>exact vP w tab D dst t len a.toList
 |makeSlice t l c=>exact xN w tab D dst t l c
 |call c =>
  simp only[dB];cases xD c with
  |none=>exact mo tab D (.call c) dst
  |some q =>obtain⟨t,t2,s,x⟩:=q;exact MW w tab D dst t t2 s x
 |convert b d x =>
  simp only[dB];rw[MY];cases mW mkD tab D b d x with
  |none =>
   simp only[Zv];rw[IC w];cases iy mkD (frD w) tab D dst b d x with
   |none=>exact mo tab D (.convert b d x) dst
   |some e=>rfl
  |some rows =>
   simp only[WB,Ba];cases ey rows with
   |none=>rfl
   |some xs=>simp only[Wy];exact p8 D dst (.one (.v (.string (strOfNums xs))))
 |makeFunc fn first caps =>
  cases fn with
  |func f =>
   simp only[dB];split
   ·rw[SX];cases yS D f caps.toList with
    |none=>rfl
    |some s=>simp only[WB,Wy];exact p8 D dst s
   ·rfl
  |_=>rfl
 |build t a =>
  cases tk with
  |true=>exact Pk tab D dst t a.toList
  |false =>
   simp only[dB,W2,Xs,EO];cases nA mkD tab D t a.toList with
   |none=>rfl
   |some s=>simp only[WB,Wy];exact p8 D dst s
 |_=>simp only[dB];exact mo tab D _ dst
section
variable  {δ β : Type}
def so (D:St δ β):List Nat→Option (List (β×List (T δ)))
 |[]=>some []
 |h::hs=>match D[h]? with|some (.box b ts)=>(so D hs).map fun r=>(b,ts.map (T.view .far))::r|_=>none
def ims (caps:List (β×List (T δ))):List (Sl δ β):=caps.map fun p=>.im .far p.1 p.2 0
def argOf (M:Mk δ β)(D:St δ β)(x:Operand):Option (Sl δ β):=
 match opd M.nil D x with
 |some (.im _ b ts off)=>some (.im .far b ts off)
 |some (.pb h off)=>match D[h]? with|some (.box b ts)=>some (.im .far b (ts.map (T.view .far)) off)|_=>none
 |some (.fni f caps)=>some (.fni f caps)
 |some (.pe _ _ _ _ _)=>none
 |some (.clo (.fn f) hs)=>(so D hs).map (.fni f ·)
 |_=>(cellsCopy M D x).bind fun p=>jm p.1 (p.2.map (T.view .far))
def argsOf (M:Mk δ β)(D:St δ β):List Operand→Option (List (Sl δ β))|[]=>some []|x::xs=>(argOf M D x).bind fun s=>(argsOf M D xs).map fun r=>s::r
end
def Out (cx:Cx)(D:DSt)(X:List Nat):Prop:=∀b∈X,cx.may b∧bF D b=0
theorem Out.nil (cx:Cx)(D:DSt):Out cx D []:=fun b h=>by cases h
structure AOk (w:World)(X:List Nat)(a:DSl)(y:Value):Prop where
 val:∀D,VS D a y
 mem:MemS w a
 kind:∀D,fa ⟨w,X⟩ D a
 own:∀b∈ownBl a,b∈X∧b<w.heap.size
theorem mi {a:DSl}(h:a.isHome=false):ownBl a=[]:=by
 cases a with
 |one t=>exact fK h
 |agg ts =>
  show ts.flatMap ownR=[];rw[WY];intro t c;refine fK ?_;cases d:t.isOwn with
  |false=>rfl
  |true =>have:ts.any T.isOwn=false:=h;rw[YI]at this;exact absurd d (this t c)
 |box b ts=>cases h
 |tup rs =>
  show(rs.flatMap fun r=>r.2.flatMap ownR)=[];have e:(rs.any fun r=>r.2.any T.isOwn)=false:=h;rw[YI]at e;rw[WY];intro r f;rw[WY];intro t c;refine fK ?_;cases d:t.isOwn with
  |false=>rfl
  |true=>exact absurd (XX.2 ⟨t,c,d⟩) (e r f)
 |_=>rfl
theorem kP {X:List Nat}{a:DSl}(h:ownBl a=[]):∀b∈ownBl a,b∈X∧b<w.heap.size:=fun b hb=>by rw[h]at hb;cases hb
theorem UY {b:Nat}(h:b<w.heap.size):(Cx.mk w []).far b:=⟨h,by simp⟩
theorem Inv.farX (I:Inv cx D P tm w){X:List Nat}(a:Out cx D X){b:Nat}(h:cx.far b):(Cx.mk w X).far b :=
 ⟨Xf h.1 I.frame.size,fun hb=>Cx.far_not h (a b hb).1⟩
theorem RJ (t:DT):(t.view .far).isOwn=false:=by cases t<;>rfl
theorem AOk.views {X:List Nat}{ts:List DT}{g:Bool}{s:DSl}(hv:VCells ts ys)(hh:∀t∈ts,Holds w t)(hb:∀t∈ts,∀b∈bl t,(Cx.mk w X).far b)(j:cy g y ys)(hs:jm g (ts.map (T.view .far))=some s):AOk w X s y∧s.isHome=false:=by
 have l:∀D,∀t∈ts.map (T.view .far),bQ ⟨w,X⟩ D t:=by
  intro D t a;obtain⟨u,c,rfl⟩:=WU.1 a;cases u with
  |v x=>trivial
  |any=>trivial
  |s k d z r=>exact fun x m=>hb _ c x (by rw[cS]at m ⊢;exact m)
 have n:∀t∈ts.map (T.view .far),Holds w t:=by intro t a;obtain⟨u,c,rfl⟩:=WU.1 a;exact nw (hh u c)
 have f:∀t∈ts.map (T.view .far),t.isOwn=false:=by intro t a;obtain⟨u,c,rfl⟩:=WU.1 a;exact RJ u
 have o:VCells (ts.map (T.view .far)) ys:=by refine⟨by simpa using hv.1,fun i t y hi j=>?_⟩;rw[WQ,WD]at hi;obtain⟨u,c,rfl⟩:=hi;exact uv.2 (hv.2 i u y c j)
 have p:(ts.map (T.view .far)).flatMap ownR=[]:=by rw[WY];intro t a;exact fK (f t a)
 generalize ts.map (T.view .far)=us at *;unfold jm at hs;split at hs
 ·cases hs;refine⟨⟨fun D=>⟨ys.toArray,by simpa[cy]using j,by simpa using o⟩,⟨n,fun t a h=>?_,trivial⟩,fun D t a=>l D t a,kP p⟩,by show us.any T.isOwn=false;rw[YI];exact fun t a=>by rw[f t a];exact XP⟩;rw[f t a]at h;cases h
 ·rename_i t;cases hs;have e:ys=[y]:=by simpa[cy]using j
  subst e;refine⟨⟨fun D=>o.2 0 t y rfl rfl,⟨fun u c=>n u (by simpa[an]using c),fun u c h=>?_,trivial⟩,fun D u c=>l D u (by simpa[an]using c),kP (by simpa[ownBl]using p)⟩,f _ (Xe _)⟩;have:=f u (by simpa[rootsO]using c);rw[this]at h;cases h
 ·cases hs
theorem Inv.out_kind (I:Inv cx D P tm w){X:List Nat}(a:Out cx D X){t:DT}(e:bQ cx D t)(f:t.isOwn=false):∀b∈bl t,(Cx.mk w X).far b:=by
 intro b hb;cases t with
 |v x=>simp[bl]at hb
 |any=>simp[bl]at hb
 |s k d z r =>
  cases k with
  |own=>cases f
  |far=>exact I.farX a (e b hb)
  |lent h c o =>obtain⟨t',g,i,j,l⟩:=e;obtain⟨s,g1,m,g3,n,g4⟩:=cj g;have p:=cQ (b:=b) m (g4 i b (j b hb));exact⟨(I.bnd b (by omega)).2,fun q=>by have:=(a b q).2;omega⟩
theorem Inv.out_own (I:Inv cx D P tm w){X:List Nat}(a:Out cx D X){s:DSl}(hs:s∈D){b:Nat}(hb:b∈ownBl s):(Cx.mk w X).far b:=by have c:=cQ (b:=b) hs hb;exact⟨(I.bnd b (by omega)).2,fun q=>by have:=(a b q).2;omega⟩
theorem EH {D:DSt}:∀{hs:List Nat}{caps:List ((Nat×Nat)×List DT)},so D hs=some caps→caps.length=hs.length ∧
  ∀(i h:Nat),hs[i]?=some h→∃(b:Nat×Nat) (ts:List DT),D[h]?=some (.box b ts)∧caps[i]?=some (b,ts.map (T.view .far))
 |[],caps,h=>by cases h;exact⟨rfl,fun i h e=>by simp at e⟩
 |h::hs,caps,e=>by
  unfold so at e;split at e
  ·rename_i b ts hb;rw[WD]at e;obtain⟨r,a,rfl⟩:=e;obtain⟨g1,c⟩:=EH a;refine⟨by simp[g1],fun i d hi=>?_⟩;cases i with
   |zero=>simp at hi;subst hi;exact⟨b,ts,hb,rfl⟩
   |succ i=>simp at hi;simpa using c i d hi
  ·cases e
theorem Inv.boxFar (I:Inv cx D P tm w){X:List Nat}(i:Out cx D X){b:Nat×Nat}{ts:List DT}(hb:D[h]?=some (.box b ts)):
  (Cx.mk w X).far b.1∧Lies w b (ts.map (T.view .far))∧(∀u∈ts.map (T.view .far),Holds w u)∧∀u∈ts.map (T.view .far),∀x∈bl u,(Cx.mk w X).far x:=by
 have a:=WC hb;have l:=I.mem _ a;have k:∀t∈ts,∀x∈bl t,(Cx.mk w X).far x:=by
  intro t m x d;cases n:t.isOwn with
  |true=>exact I.out_own i a (by simp only[ownBl,WZ,WP];exact .inr ⟨t,m,by simp[ownR,n,d]⟩)
  |false=>exact I.out_kind i (I.kind _ a t m) n x d
 refine⟨I.out_own i a (by simp[ownBl]),?_,fun u g=>?_,fun u g x d=>?_⟩
 ·obtain⟨c,e,f,p,q⟩:=l.2.2.1;refine⟨c,e,f,p,fun j t o=>?_⟩;rw[WQ,WD]at o;obtain⟨u,g,rfl⟩:=o;obtain⟨y,r,s⟩:=q j u g;exact⟨y,r,uv.2 s⟩
 ·obtain⟨v,hv,rfl⟩:=WU.1 g;exact nw (l.1 v hv)
 ·obtain⟨v,hv,rfl⟩:=WU.1 g;rw[TP]at d;exact k v hv x d
theorem Inv.cloArg (I:Inv cx D P tm w){X:List Nat}(j:Out cx D X){hs:List Nat}(hc:so D hs=some caps)(hv:VS D (.clo (.fn f) hs) y):AOk w X (.fni f caps) y:=by
 obtain⟨k,u,r,rfl⟩:=hv;obtain⟨g1,n⟩:=EH hc;have a:∀p∈caps,∃(h:Nat) (ts:List DT),D[h]?=some (.box p.1 ts)∧p.2=ts.map (T.view .far):=by
  intro p g;obtain⟨i,hi⟩:=WL g;have l:i<hs.length:=by
   rcases WI i caps.length with q|q
   ·omega
   ·rw[WF q]at hi;cases hi
  obtain⟨b,ts,c,d⟩:=n i hs[i] (WE l);rw[hi]at d;cases d;exact⟨_,ts,c,rfl⟩
 have m:k=caps.map (·.1):=by
  apply XT;intro i;rcases WI i hs.length with q|q
  ·obtain⟨b,ts,c,d⟩:=n i hs[i] (WE q);obtain⟨ts',o⟩:=r i hs[i] k[i] (WE q) (WE (by omega));rw[c]at o;cases o;rw[WQ,d,WE (by omega)];rfl
  ·rw[WF (by omega),WF (by simp;omega)]
 refine⟨fun D=>?_,⟨fun t e=>?_,fun t e=>by simp[rootsO]at e,fun p g=>?_⟩,fun D p g=>?_,kP rfl⟩
 ·show Kn (.fn f) k=_;simp only[Kn,m,Xk];rfl
 ·simp only[an,WP]at e;obtain⟨p,g,e⟩:=e;obtain⟨h,ts,c,d⟩:=a p g;rw[d]at e;exact(I.boxFar j c).2.2.1 t e
 ·obtain⟨h,ts,c,d⟩:=a p g;rw[d];exact(I.boxFar j c).2.1
 ·obtain⟨h,ts,c,d⟩:=a p g;rw[d];exact⟨(I.boxFar j c).1,fun t e x s=>(I.boxFar j c).2.2.2 t e x s⟩
theorem AOk.ims {X:List Nat}(h:AOk w X (.fni f caps) y):∀(i:Nat)(a:DSl)(v:Value),(Am.ims caps)[i]?=some a→(caps.map fun b=>Value.pointer (some ⟨b.1.1,b.1.2,none⟩))[i]?=some v→AOk w X a v:=by
 intro i a v hi hv;unfold Am.ims at hi;rw[WQ,WD]at hi hv;obtain⟨p,h1,rfl⟩:=hi;obtain⟨j,e,rfl⟩:=hv;rw[h1]at e;cases e;have c:=WC h1;have g:=h.mem;refine⟨fun D=>rfl,⟨fun t d=>?_,fun t d=>by simp[rootsO]at d,g.2.2 p c⟩,fun D=>?_,kP rfl⟩
 ·exact g.1 t (by simp only[an,WP];exact⟨p,c,by simpa[an]using d⟩)
 ·have:=h.kind D p c;exact⟨this.1,this.2⟩
theorem RG (caps:List ((Nat×Nat)×List DT)):(Am.ims caps).flatMap ownBl=[]:=by rw[WY];intro s hs;obtain⟨p,_,rfl⟩:=WU.1 hs;rfl
theorem Inv.argOf (I:Inv cx D P a.tmps w){X:List Nat}(d:Out cx D X){x:Operand}{s:DSl}(e:argOf mkD D x=some s):AOk w X s (a.eval x)∧s.isHome=false:=by
 unfold Am.argOf at e;split at e
 ·rename_i k b ts off h;cases e;have i:=I.opd h;have u:=i.mem;have n:=i.kind;refine⟨⟨fun D=>i.val,⟨u.1,fun t c=>by simp[rootsO]at c,u.2.2⟩,fun D=>?_,kP rfl⟩,rfl⟩;cases k with
  |own=>exact n.elim
  |far=>exact⟨I.farX d n.1,fun t c x j=>I.farX d (n.2 t c x j)⟩
  |lent F H J =>obtain⟨t',l,q,z,A⟩:=n;obtain⟨s',g1,o,g3,B,g4⟩:=cj l;exact⟨I.out_own d o (g4 q _ z),fun t c x j=>I.out_own d o (g4 q _ (A t c x j))⟩
 ·rename_i h off r;split at e
  ·rename_i b ts hb;cases e;have i:=I.opd r;obtain⟨K,ts',m,C⟩:=i.val;rw[hb]at m;cases m;obtain⟨g1,o,g3,g4⟩:=I.boxFar d hb;exact⟨⟨fun D=>C,⟨fun t c=>g3 t (by simpa[an]using c),fun t c=>by simp[rootsO]at c,o⟩,fun D=>⟨g1,g4⟩,kP rfl⟩,rfl⟩
  ·cases e
 ·rename_i f caps h;cases e;have i:=I.opd h;refine⟨⟨fun D=>i.val,i.mem,fun D p r=>?_,kP rfl⟩,rfl⟩;have:=i.kind p r;exact⟨I.farX d this.1,fun t c x j=>I.farX d (this.2 t c x j)⟩
 ·cases e
 ·rename_i f hs j;rw[WD]at e;obtain⟨caps,l,rfl⟩:=e;exact⟨I.cloArg d l (I.opd j).val,rfl⟩
 ·rw[WA]at e;obtain⟨⟨g,ts⟩,h,e⟩:=e;obtain⟨ys,G,hv⟩:=I.cellsCopy h;refine AOk.views G.v G.holds (fun t c b hb=>?_) hv e;cases y:t.isOwn with
  |false=>exact I.out_kind d (G.kind t c) y b hb
  |true =>have l:=G.cnt b;have q:0<(ts.flatMap ownR).count b:=WW.2 (WP.2 ⟨t,c,by simp[ownR,y,hb]⟩);rw[cX]at l;omega
def ArgsOk (w:World)(X:List Nat)(ad:List DSl)(c:List Value):Prop :=ad.length=c.length∧(∀(i:Nat)(a:DSl)(y:Value),ad[i]?=some a→c[i]?=some y→AOk w X a y)∧∀b,(ad.flatMap ownBl).count b≤1
theorem ArgsOk.nil (w:World)(X:List Nat):ArgsOk w X [] []:=⟨rfl,fun i a y h=>by simp at h,fun b=>by simp⟩
theorem ArgsOk.consH {X:List Nat}{a:DSl}(h:AOk w X a y)(hc:∀b,(ownBl a).count b+(as.flatMap ownBl).count b≤1)(g:ArgsOk w X as ys):ArgsOk w X (a::as) (y::ys):=by
 refine⟨by simp[g.1],fun i d e hi c=>?_,fun b=>by rw[W1,W3];exact hc b⟩;cases i with
 |zero=>simp at hi c;subst hi;subst c;exact h
 |succ i=>simp at hi c;exact g.2.1 i d e hi (by simpa using c)
theorem ArgsOk.consN {X:List Nat}{a:DSl}(h:AOk w X a y)(hc:a.isHome=false)(g:ArgsOk w X as ys):ArgsOk w X (a::as) (y::ys):=
 ArgsOk.consH h (fun b=>by rw[mi hc];simpa using g.2.2 b) g
theorem OL (h:∀a∈ad,a.isHome=false):ad.flatMap ownBl=[]:=by rw[WY];exact fun a b=>mi (h a b)
theorem Inv.argsOf (I:Inv cx D P a.tmps w){X:List Nat}(b:Out cx D X):∀{xs:List Operand}{ss:List DSl},argsOf mkD D xs=some ss→ArgsOk w X ss (xs.map a.eval)∧∀a∈ss,a.isHome=false
 |[],ss,e=>by cases e;exact⟨ArgsOk.nil w X,fun a h=>by cases h⟩
 |x::xs,ss,e=>by
  simp only[Am.argsOf,WA,WD]at e;obtain⟨s,d,r,f,rfl⟩:=e;obtain⟨g1,g⟩:=I.argsOf b f;obtain⟨i,c⟩:=I.argOf b d;exact⟨g1.consN i c,fun j ha=>by
   rcases WZ.1 ha with rfl|ha
   ·exact c
   ·exact g j ha⟩
section
variable  {δ β : Type}
def argsIo (M:Mk δ β)(D:St δ β)(s:Sl δ β):Nat→List Operand→Option (List (Sl δ β))|_,[]=>none| 0,_::xs=>(argsOf M D xs).map fun r=>s::r|i+1,x::xs=>(argOf M D x).bind fun a=>(argsIo M D s i xs).map fun r=>a::r
end
def OneHome (s:DSl)(y:Value):Nat→List DSl→List Value→Prop|_,[],_=>False|_,_::_,[]=>False| 0,a::as,v::_=>a=s∧v=y∧∀a∈as,a.isHome=false|i+1,a::as,_::b=>a.isHome=false∧OneHome s y i as b
theorem Inv.argsIo (I:Inv cx D P a.tmps w){X:List Nat}(f:Out cx D X){s:DSl}{x:Operand}(hs:AOk w X s (a.eval x))(j:∀b,(ownBl s).count b≤1):
  ∀{i:Nat}{xs:List Operand}{ss:List DSl},xs[i]?=some x→argsIo mkD D s i xs=some ss→ArgsOk w X ss (xs.map a.eval)∧ss.flatMap ownBl=ownBl s∧OneHome s (a.eval x) i ss (xs.map a.eval)
 |_,[],ss,c,e=>by simp at c
 | 0,y::xs,ss,c,e=>by simp only[Am.argsIo,WD]at e;obtain⟨r,g,rfl⟩:=e;obtain⟨g1,d⟩:=I.argsOf f g;simp at c;subst c;exact⟨g1.consH hs fun b=>by rw[OL d];simpa using j b,by rw[W1,OL d,WX],rfl,rfl,d⟩
 |i+1,y::xs,ss,c,e=>by simp only[Am.argsIo,WA,WD]at e;obtain⟨m,k,r,g,rfl⟩:=e;obtain⟨g1,d,g3⟩:=I.argsIo f hs j (by simpa using c) g;obtain⟨l,h⟩:=I.argOf f k;exact⟨g1.consN l h,by rw[W1,mi h,d];rfl,h,g3⟩
theorem Ku (D:DSt):∀(hs:List Nat),so (erD D) hs=(so D hs).map (List.map fun p=>((),erL p.2))
 |[]=>rfl
 |h::hs=>by
  simp only[so,cl];cases D[h]? with
  |none=>rfl
  |some s =>
   cases s with
   |box b ts =>
    simp only[WB,Sl.er,Ku D hs];cases so D hs with
    |none=>rfl
    |some r=>simp only[WB,WT,uN]
   |_=>rfl
theorem Rh (caps:List ((Nat×Nat)×List DT)):(ims caps).map Sl.er=ims (caps.map fun p=>((),erL p.2)):=by unfold ims;rw[Xk,Xk];rfl
theorem Ks (D:DSt)(x:Operand):argOf mkU (erD D) x=(argOf mkD D x).map Sl.er:=by
 simp only[argOf,cN];have a:∀s:DSl,((cellsCopy mkU (erD D) x).bind fun p=>jm p.1 (p.2.map (T.view .far)))=((cellsCopy mkD D x).bind fun p=>(jm p.1 (p.2.map (T.view .far)):Option DSl)).map Sl.er:=by
  intro s;rw[k9];cases cellsCopy mkD D x with
  |none=>rfl
  |some p=>simp only[WB,Wy, ←uN,xO]
 cases d:opd mkD.nil D x with
 |none=>exact a .any
 |some s =>
  cases s with
  |pb h off =>
   simp only[WB,Sl.er,cl];cases D[h]? with
   |none=>rfl
   |some s=>cases s<;>first|rfl|simp only[WB,Sl.er,uN]
  |im k b ts off=>rfl
  |fni f caps=>rfl
  |pe h c st i off=>rfl
  |clo g hs =>
   cases g with
   |arr offs=>exact a .any
   |fn f =>
    simp only[WB,Sl.er,Ku];cases so D hs with
    |none=>rfl
    |some r=>rfl
  |_=>exact a .any
theorem A7 (D:DSt):∀(xs:List Operand),argsOf mkU (erD D) xs=(argsOf mkD D xs).map (List.map Sl.er)
 |[]=>rfl
 |x::xs=>by
  simp only[argsOf,Ks,A7 D xs];cases argOf mkD D x with
  |none=>rfl
  |some s =>
   simp only[WB,Wy];cases argsOf mkD D xs with
   |none=>rfl
   |some r=>rfl
theorem HY (D:DSt)(s:DSl):∀(i:Nat)(xs:List Operand),argsIo mkU (erD D) s.er i xs=(argsIo mkD D s i xs).map (List.map Sl.er)
 |_,[]=>by simp[argsIo]
 | 0,x::xs=>by
  simp only[argsIo,A7];cases argsOf mkD D xs with
  |none=>rfl
  |some r=>rfl
 |i+1,x::xs=>by
  simp only[argsIo,Ks,HY D s i xs];cases argOf mkD D x with
  |none=>rfl
  |some a =>
   simp only[WB,Wy];cases argsIo mkD D s i xs with
   |none=>rfl
   |some r=>rfl
abbrev URes:=List (Bool×List (T Unit))
abbrev eo:=List (Bool×List DT)
variable{rd:eo}
def erR (rd:eo):URes:=rd.map fun r=>(r.1,erL r.2)
theorem yZ (a b:eo):erR (a++b)=erR a++erR b:=by simp[erR]
def c7:DSl→List Nat| .box b _=>[b.1]|_=>[]
theorem TE {a:DSl}(h:a.isHome=false):c7 a=[]:=by cases a<;>first|rfl|cases h
theorem T4 (h:∀a∈ad,a.isHome=false):ad.flatMap c7=[]:=by rw[WY];exact fun a b=>TE (h a b)
def bG (rd:eo):List Nat:=rd.flatMap fun r=>r.2.flatMap ownR
theorem nk (a b:eo):bG (a++b)=bG a++bG b:=by simp[bG]
inductive HK where|box|one|agg deriving DecidableEq
def de {δ β:Type}:Sl δ β→Option HK| .box _ _=>some .box| .one u=>if u.isOwn=true then some .one else none| .agg ts=>if ts.any T.isOwn=true then some .agg else none|_=>none
theorem Bg {a:DSl}(h:a.isHome=false):de a=none:=by
 cases a with
 |one t=>simp[de,show t.isOwn=false from h]
 |agg ts=>simp only[de,show ts.any T.isOwn=false from h];rfl
 |box b ts=>cases h
 |_=>rfl
theorem Te {a:DSl}(h:de a=some .box):∃b ts,a = .box b ts:=by
 cases a with
 |box b ts=>exact⟨b,ts,rfl⟩
 |one u=>simp only[de]at h;split at h<;>simp at h
 |agg ts=>simp only[de]at h;split at h<;>simp at h
 |_=>simp[de]at h
theorem DS {a:DSl}(h:de a=some .one):∃u,a = .one u:=by
 cases a with
 |box b ts=>simp[de]at h
 |one u=>exact⟨u,rfl⟩
 |agg ts=>simp only[de]at h;split at h<;>simp at h
 |_=>simp[de]at h
theorem Td {a:DSl}(h:de a=some .agg):∃ts,a = .agg ts:=by
 cases a with
 |box b ts=>simp[de]at h
 |one u=>simp only[de]at h;split at h<;>simp at h
 |agg ts=>exact⟨ts,rfl⟩
 |_=>simp[de]at h
def Es (w':World)(a:DSl)(y:Value)(o:Bool×List DT):Prop :=
 match a with
 | .box b _=>o.1=true∧Lies w' b o.2∧Free w' b o.2.length
 | .one _=>VPart o y∧o.1=false
 | .agg _=>VPart o y∧o.1=true
 |_=>False
def OutsOk (w':World):List DSl→List Value→eo→Prop|[],_,od=>od=[]|a::as,y::ys,od=>if(de a).isSome then ∃o r,od=o::r∧Es w' a y o∧OutsOk w' as ys r else OutsOk w' as ys od|_::_,[],_=>False
def UW (rd:eo)(v:Value):Prop:=∃(d:Dec) (z:Nat) (row:List DT),rd=[(false,[.s .own d z [row],.any])]∧v = .pointer (some ⟨d.b,d.o,none⟩)
structure RetOk (w:World)(X:List Nat)(w':World)(bx:List Nat)(od rd:eo)(v:Value):Prop where
 val:(∃r,rd=[r]∧VPart r v)∨(rd.length≠1∧VS [] (.tup rd) v)∨UW rd v
 fine:∀r∈od++rd,∀t∈r.2,t.fine=true
 holds:∀r∈od++rd,∀t∈r.2,Holds w' t
 own:∀r∈od++rd,∀t∈r.2,t.isOwn=true→OwnT w' t
 once:∀b,(bG (od++rd)).count b+bx.count b≤1
 new:∀b∈bG (od++rd),(w.heap.size≤b∨b∈X)∧b<w'.heap.size
structure GrewH (X:List Nat)(w w':World):Prop where
 os:w'.os=w.os
 tape:w'.tape=w.tape
 output:w'.output=w.output
 size:w.heap.size≤w'.heap.size
 same:∀b,b<w.heap.size→b∉X→w'.heap[b]?=w.heap[b]?
theorem Grew.x (g:Grew w w')(X:List Nat):GrewH X w w':=⟨g.os,g.tape,g.output,g.size,fun b h _=>g.same b h⟩
theorem GrewH.grew (g:GrewH [] w w'):Grew w w':=⟨g.os,g.tape,g.output,g.size,fun b h=>g.same b h (by simp)⟩
abbrev Sem1:=FuncId→List (Sl Unit Unit)→Option URes
structure Base where
 n:Nat
 K:World→Prop
 stable:∀{w w':World},(∀b,b<n→w'.heap[b]?=w.heap[b]?)→K w→K w'
variable{B:Base}
def Base.ok (B:Base)(w:World)(X:List Nat):Prop:=B.n≤w.heap.size∧(∀b∈X,B.n≤b)∧B.K w
def B0:Base:=⟨0,fun _=>True,fun _ h=>h⟩
theorem B0.ok (w:World)(X:List Nat):B0.ok w X:=⟨YM _,fun _ _=>YM _,trivial⟩
theorem Base.ok.at {d:List (DT×Value)}(h:B.ok cx.w0 cx.X)(I:Inv cx D d tm w){X:List Nat}(e:Out cx D' X):B.ok w X:=by
 obtain⟨a,c,f⟩:=h;refine⟨Xu a I.frame.size,fun b hb=>?_,B.stable (fun b hb=>I.frame.same b ⟨Xf hb a,fun g=>Nat.not_le_of_lt hb (c b g)⟩) f⟩;rcases(e b hb).1 with h|h
 ·exact Xu a h
 ·exact c b h
def CallsOk (P:Program)(B:Base)(C:Sem1):Prop :=∀(f:FuncId)(as:List (Sl Unit Unit))(rs:URes),C f as=some rs→∀(w:World)(X:List Nat)(ad:List DSl)(a:List Value),B.ok w X→ad.map Sl.er=as→ArgsOk w X ad a → Calls P f a.toArray w fun e w'=>∃v od rd,e = .returned v∧GrewH X w w'∧erR (od++rd)=rs∧OutsOk w' ad a od∧RetOk w X w' (ad.flatMap c7) od rd v
def ie (P:Program)(B:Base)(C:Sem1)(cx:Cx):Prop:=CallsOk P B C∧B.ok cx.w0 cx.X
theorem OutsOk.none {w':World}:∀{ad:List DSl}{b:List Value}{od:eo},(∀a∈ad,a.isHome=false)→OutsOk w' ad b od→od=[]
 |[],_,_,_,h=>h
 |a::as,[],_,_,h=>h.elim
 |a::as,y::ys,od,hh,h=>by unfold OutsOk at h;rw[Bg (hh a (by simp))]at h;exact OutsOk.none (fun c d=>hh c (by simp[d])) h
theorem OutsOk.one {w':World}{s:DSl}{y:Value}(hs:(de s).isSome=true):∀{i:Nat}{ad:List DSl}{b:List Value}{od:eo},OneHome s y i ad b→OutsOk w' ad b od→∃o,od=[o]∧Es w' s y o
 |i,[],_,_,h,_=>by cases i<;>exact h.elim
 |i,a::as,[],_,h,_=>by cases i<;>exact h.elim
 | 0,a::as,v::b,od,h,g=>by obtain⟨rfl,rfl,c⟩:=h;unfold OutsOk at g;rw[hs]at g;obtain⟨o,r,rfl,g1,d⟩:=g;rw[OutsOk.none c d];exact⟨o,rfl,g1⟩
 |i+1,a::as,v::b,od,h,g=>by obtain⟨e,f⟩:=h;unfold OutsOk at g;rw[Bg e]at g;exact OutsOk.one hs f g
theorem OneHome.box {s:DSl}:∀{i:Nat}{ad:List DSl}{b:List Value},OneHome s y i ad b→ad.flatMap c7=c7 s
 |i,[],_,h=>by cases i<;>exact h.elim
 |i,a::as,[],h=>by cases i<;>exact h.elim
 | 0,a::as,v::b,h=>by obtain⟨rfl,rfl,c⟩:=h;rw[W1,show as.flatMap c7=[]from T4 c,WX]
 |i+1,a::as,v::b,h=>by rw[W1,TE h.1,h.2.box];rfl
section
variable  {δ β : Type}
def nar (M:Mk δ β)(n:Nat)(s:Sl δ β):Sl δ β :=
 match s with
 | .im k b ts off=>if n≠0∧(off≠0∨n≠ts.length)∧off+n≤ts.length then .im k (M.at_ (M.ptr b) off 1) ((ts.drop off).take n) 0 else .im k b ts off
 |s=>s
def narL (M:Mk δ β):List Nat→List (Sl δ β)→List (Sl δ β)|n::a,s::ss=>nar M n s::narL M a ss|_,ss=>ss
def argsW (M:Mk δ β)(tab:Tab)(f:FuncId)(D:St δ β)(xs:List Operand):Option (List (Sl δ β)):=(argsOf M D xs).map (narL M ((tab.pw.lookup f).getD []))
end
theorem Up (n:Nat)(s:DSl):nar mkU n s.er=(nar mkD n s).er:=by
 cases s with
 |im k b ts off =>
  simp only[nar,Sl.er,W6];split
  ·simp only[Sl.er,erL,Yv,Yw]
  ·rfl
 |_=>rfl
theorem OB:∀(a:List Nat)(ss:List DSl),narL mkU a (ss.map Sl.er)=(narL mkD a ss).map Sl.er
 |[],ss=>by cases ss<;>rfl
 |n::a,[]=>rfl
 |n::a,s::ss=>by simp only[WT,narL,Up,OB a ss]
theorem Kt (tab:Tab)(f:FuncId)(D:DSt)(xs:List Operand):argsW mkU tab f (erD D) xs=(argsW mkD tab f D xs).map (List.map Sl.er):=by unfold argsW;rw[A7,XD,XD];congr 1;funext ss;exact OB _ ss
theorem AOk.nar {X:List Nat}{a:DSl}(n:Nat)(h:AOk w X a y)(hh:a.isHome=false):AOk w X (Am.nar mkD n a) y∧(Am.nar mkD n a).isHome=false:=by
 cases a with
 |im k b ts off =>
  simp only[Am.nar];split
  ·rename_i hc;have hb:(mkD.at_ (mkD.ptr b) off 1)=(b.1,b.2+off):=by simp[mkD]
   rw[hb];have d:∀u∈(ts.drop off).take n,u∈ts:=fun u g=>XM (Yb g)
   have p:=h.mem;refine⟨⟨fun D=>?_,⟨fun u g=>p.1 u (d u g),fun u g=>by simp[rootsO]at g,?_⟩,fun D=>?_,kP rfl⟩,rfl⟩
   ·have:=h.val D;exact this
   ·obtain⟨c,e,f,q1,m⟩:=p.2.2;refine⟨c,e,f,q1,fun j u i=>?_⟩;have o:ts[off+j]?=some u:=by
     rw[XJ]at i;split at i
     ·rwa [Xx]at i
     ·cases i
    obtain⟨z,q,z2⟩:=m (off+j) u o;exact⟨z,by simpa[XZ]using q,z2⟩
   ·have l:=h.kind D;cases k with
    |own=>exact l
    |far=>exact⟨l.1,fun u g=>l.2 u (d u g)⟩
    |lent v c x =>obtain⟨t,q1,m,r,s⟩:=l;exact⟨t,q1,m,r,fun u g=>s u (d u g)⟩
  ·exact⟨h,hh⟩
 |_=>exact⟨h,hh⟩
theorem ArgsOk.narL {w:World}{X:List Nat}:∀(c:List Nat){ad:List DSl}{d:List Value},ArgsOk w X ad d→(∀s∈ad,s.isHome=false)→ArgsOk w X (Am.narL mkD c ad) d∧∀s∈Am.narL mkD c ad,s.isHome=false
 |[],ad,d,h,hh=>by cases ad<;>exact⟨h,hh⟩
 |n::c,[],d,h,hh=>⟨h,hh⟩
 |n::c,a::as,[],h,hh=>by have:=h.1;simp at this
 |n::c,a::as,y::ys,h,hh=>by
  have f:=h.2.1 0 a y rfl rfl;obtain⟨g,e⟩:=f.nar n (hh a (by simp));have j:ArgsOk w X as ys:=⟨by simpa using h.1,fun i k l q1 m=>h.2.1 (i+1) k l (by simpa using q1) (by simpa using m),fun b=>by have:=h.2.2 b;rw[W1,W3]at this;omega⟩
  obtain⟨o,p⟩:=ArgsOk.narL c j fun s hs=>hh s (by simp[hs])
  refine⟨o.consN g e,fun s hs=>?_⟩;rcases WZ.1 hs with rfl|hs
  ·exact e
  ·exact p s hs
theorem Inv.argsW (I:Inv cx D P a.tmps w){X:List Nat}(b:Out cx D X){tab:Tab}(e:Am.argsW mkD tab f D xs=some ad):
  ArgsOk w X ad (xs.map a.eval)∧∀s∈ad,s.isHome=false:=by
 unfold Am.argsW at e;rw[WD]at e;obtain⟨c,d,rfl⟩:=e;obtain⟨g,h⟩:=I.argsOf b d;exact g.narL _ h
section
variable  {δ β : Type}
def uC (M:Mk δ β):T δ→Option (β×List (T δ))| .s .own d z [row]=>if row.all T.fine=true then some (M.at_ d 0 z,row)else none|_=>none
def zw (M:Mk δ β)(r:Bool×List (T δ)):Option (β×List (T δ)):=
 match r.1,r.2 with
 |false,[t,.any]=>uC M t
 |_,_=>none
def sE (M:Mk δ β):List (Bool×List (T δ))→Option (Sl δ β)
 |[r]=>match zw M r with|some (b,row)=>some (.box b row)|none=>jm r.1 r.2
 |rs=>some (.tup rs)
def putRet (M:Mk δ β)(D:St δ β)(dst:Option Nat)(rs:List (Bool×List (T δ))):Option (St δ β):=
 match dst with
 |none=>some D
 |some t=>if t<D.length then(sE M rs).map fun s=>bj D (some t) s else none
def boolOf (M:Mk δ β)(D:St δ β)(x:Operand):Option Bool :=
 match opd M.nil D x with
 |some (.one (.v (.bool b)))=>some b
 |_=>none
end
theorem yM {t:DT}(h:t.fine=true):bQ cx D t:=by
 cases t with
 |v x=>trivial
 |any=>trivial
 |s k d z r=>cases k<;>first|trivial|cases h
theorem Inv.dropP (I:Inv cx D P tm w):Inv cx D [] tm w where
 size:=I.size
 val:=I.val
 mem:=I.mem
 kind:=I.kind
 pend:=fun p a=>by cases a
 once:=fun b=>by have:=I.once b;rw[cX];omega
 bnd:=fun b hb=>I.bnd b (by rw[cX]at hb;omega)
 frame:=I.frame
def PendOf (P:List (DT×Value))(ts:List DT):Prop:=P.map (·.1)=ts∧∀p∈P,VT p.1 p.2
theorem PendOf.cnt {ts:List DT}(h:PendOf P ts)(b:Nat):bc P b=(ts.flatMap ownR).count b:=by unfold bc;rw[←h.1,Yq]
theorem gj:∀{ts:List DT},(∀t∈ts,∃y,VT t y)→∃P,PendOf P ts
 |[],_=>⟨[],rfl,fun p hp=>by cases hp⟩
 |t::ts,h=>by
  obtain⟨y,a⟩:=h t (by simp);obtain⟨P,b,c⟩:=gj (ts:=ts) fun u d=>h u (by simp[d])
  refine⟨(t,y)::P,by simp[b],fun p hp=>?_⟩;rcases WZ.1 hp with rfl|hp
  ·exact a
  ·exact c p hp
theorem VCells.each {ts:List DT}(h:VCells ts ys):∀t∈ts,∃y,VT t y:=by
 intro t b;obtain⟨i,hi⟩:=WL b;have a:i<ys.length:=by
  rw[←h.1];rcases WI i ts.length with g|g
  ·exact g
  ·rw[WF g]at hi;cases hi
 exact⟨_,h.2 i t ys[i] hi (WE a)⟩
theorem VPart.each (h:VPart r y):∀t∈r.2,∃y,VT t y:=by
 unfold VPart at h;split at h
 ·obtain⟨cs,_,h⟩:=h;exact h.each
 ·obtain⟨t,b,c⟩:=h;intro u a;rw[b,WG]at a;subst a;exact⟨_,c⟩
theorem sD (rd:eo):bG rd=(rd.flatMap (·.2)).flatMap ownR:=by unfold bG;rw[List.flatMap_assoc]
theorem RetOk.each {X:List Nat}{od:eo}{v:Value}(R:RetOk w X w' bx od rd v):∀t∈rd.flatMap (·.2),∃y,VT t y:=by
 intro t a;obtain⟨r,b,a⟩:=WP.1 a;rcases R.val with⟨k,c,e⟩|⟨_,h,_,e,j⟩|⟨d,z,row,c,_⟩
 ·rw[c,WG]at b;subst b;exact e.each t a
 rotate_left
 ·rw[c,WG]at b;subst b;simp only[WZ,Yh,Y0]at a;rcases a with rfl|rfl
  ·exact⟨_,rfl⟩
  ·exact⟨.bool true,rfl⟩
 ·obtain⟨i,hi⟩:=WL b;have f:i<h.toList.length:=by
   rw[←e];rcases WI i rd.length with g|g
   ·exact g
   ·rw[WF g]at hi;cases hi
  exact(j i r h.toList[i] hi (WE f)).each t a
theorem Inv.world {P':List (DT×Value)}(I:Inv cx D P tm w){X:List Nat}(m:Out cx D X)(g:GrewH X w w')(n:∀p∈P',VT p.1 p.2∧Holds w' p.1∧(p.1.isOwn=true→OwnT w' p.1)∧(p.1.isOwn=false→∀x∈bl p.1,cx.far x))(B:∀b,0<bc P' b→bc P' b≤1∧bF D b=0∧cx.may b∧b<w'.heap.size):Inv cx D P' tm w':=by
 have same:∀b,(Cx.mk w X).far b→w'.heap[b]?=w.heap[b]?:=fun b h=>g.same b h.1 h.2
 have j:∀s∈D,∀b∈ownBl s,(Cx.mk w X).far b:=fun s hs b hb=>I.out_own m hs hb
 have i:∀s∈D,∀t∈rootsO s,bQ cx D t→∀b∈bl t,(Cx.mk w X).far b:=by
  intro s hs t a d b hb;cases y:t.isOwn with
  |false=>exact I.out_kind m d y b hb
  |true =>
   refine j s hs b ?_;have:b∈ownR t:=by simp[ownR,y,hb]
   cases s with
   |one u=>simp[rootsO]at a;subst a;exact this
   |agg ts=>exact WP.2 ⟨t,a,this⟩
   |box C ts=>exact Ya _ (WP.2 ⟨t,a,this⟩)
   |tup rs =>simp only[rootsO,WP]at a;obtain⟨r,G,a⟩:=a;exact WP.2 ⟨r,G,WP.2 ⟨t,a,this⟩⟩
   |_=>simp[rootsO]at a
 have l:∀(b:Nat)(ts:List DT)(k:Kd),qk cx D k b ts→(Cx.mk w X).far b∧∀t∈ts,∀x∈bl t,(Cx.mk w X).far x:=by
  intro b ts k d;cases k with
  |own=>exact d.elim
  |far=>exact⟨I.farX m d.1,fun t a x v=>I.farX m (d.2 t a x v)⟩
  |lent h c L =>obtain⟨t',q1,A,H,J⟩:=d;obtain⟨s,g1,F,g3,K,g4⟩:=cj q1;exact⟨j s F _ (g4 A _ H),fun t a x v=>j s F _ (g4 A _ (J t a x v))⟩
 have lies:∀(b:Nat×Nat)(ts:List DT),(Cx.mk w X).far b.1→Lies w b ts→Lies w' b ts:=by rintro b ts hf ⟨c,e,f,q1,A⟩;exact⟨c,e,f,by rw[same _ hf];exact q1,A⟩
 refine⟨I.size,I.val,fun s hs=>?_,I.kind,n,fun b=>?_,fun b hb=>?_,?_⟩
 ·have o:=I.mem s hs;have d:=I.kind s hs;have roots:∀t∈an s,∀b∈bl t,(Cx.mk w X).far b:=by
   intro t a;cases s with
   |one u=>exact i _ hs t a (d t a)
   |agg ts=>exact i _ hs t a (d t a)
   |box C ts=>exact i _ hs t a (d t a)
   |tup rs=>exact i _ hs t a (d t a)
   |im k b ts off=>exact(l _ _ _ d).2 t a
   |fni f caps =>simp only[an,WP]at a;obtain⟨p,n,a⟩:=a;exact fun x v=>I.farX m ((d p n).2 t a x v)
   |_=>simp[an]at a
  refine⟨fun t a=>(o.1 t a).frame fun b hb _=>same b (roots t a b hb),fun t a y=>(o.2.1 t a y).frame fun b hb _=>same b (i s hs t a (by
   cases s with
   |one u=>exact d t a
   |agg ts=>exact d t a
   |box C ts=>exact d t a
   |tup rs=>exact d t a
   |_=>simp[rootsO]at a) b hb),?_⟩
  cases s with
  |box b ts =>have hf:=j _ hs b.1 (by simp[ownBl]);refine⟨lies b ts hf o.2.2.1,fun c e lo hi hc=>o.2.2.2 c e lo hi ?_⟩;rw[←same _ hf];exact hc
  |im k b ts off=>exact lies b ts (l _ _ _ d).1 o.2.2
  |fni f caps=>exact fun p n=>lies p.1 p.2 (I.farX m (d p n).1) (o.2.2 p n)
  |_=>trivial
 ·have q:=I.once b;rcases Xt (bc P' b)with z|z
  ·omega
  ·have:=B b z;omega
 ·rcases Xt (bc P' b)with z|z
  ·have:=I.bnd b (by omega);exact⟨this.1,Xf this.2 g.size⟩
  ·exact(B b z).2.2
 ·have f:=I.frame;exact⟨by rw[g.os,f.os],by rw[g.tape,f.tape],by rw[g.output,f.output],Xu f.size g.size,fun b hb=>by rw[g.same b (Xf hb.1 f.size) fun q=>Cx.far_not hb (m b q).1];exact f.same b hb⟩
theorem RetOk.pend {X:List Nat}{od:eo}{v:Value}(R:RetOk w X w' bx od rd v){ts:List DT}(a:∀t∈ts,∃r∈od++rd,t∈r.2)(d:PendOf P ts)(cx:Cx):
  ∀p∈P,VT p.1 p.2∧Holds w' p.1∧(p.1.isOwn=true→OwnT w' p.1)∧(p.1.isOwn=false→∀x∈bl p.1,cx.far x):=by
 intro p e;obtain⟨r,b,c⟩:=a p.1 (by rw[←d.1];exact WU.2 ⟨p,e,rfl⟩);refine⟨d.2 p e,R.holds r b _ c,R.own r b _ c,fun g x f=>?_⟩;rcases wO (R.fine r b _ c)with q|q
 ·rw[g]at q;cases q
 ·rw[q]at f;cases f
theorem Gl:∀{ts:List DT},(∀t∈ts,t.fine=true)→ts.flatMap bl=ts.flatMap ownR
 |[],_=>rfl
 |t::ts,h=>by
  rw[W1,W1,Gl fun u a=>h u (by simp[a])];congr 1;have:=h t (by simp);cases t with
  |v x=>simp[ownR,T.isOwn,bl]
  |any=>simp[ownR,T.isOwn,bl]
  |s k d z r=>cases k<;>first|(simp[ownR,T.isOwn];done)|cases this
theorem RetOk.ptr {X:List Nat}{od:eo}{v:Value}(R:RetOk w X w' bx od rd v)(A:rd=[r]){b:Nat×Nat}{row:List DT}(h:zw mkD r=some (b,row)):
  v = .pointer (some ⟨b.1,b.2,none⟩)∧Lies w' b row∧Free w' b row.length∧(∀u∈row,Holds w' u∧(u.isOwn=true→OwnT w' u)∧u.fine=true)∧∀x,(b.1::row.flatMap ownR).count x=(bG rd).count x:=by
 subst A;obtain⟨g,ts⟩:=r;unfold zw at h;split at h
 case h_2=>cases h
 rename_i t q l;simp only at q l;subst q;subst l;unfold uC at h;split at h
 case h_2=>cases h
 rename_i d z m;split at h
 case isFalse=>cases h
 rename_i hf;cases h;have a:∀u∈row,u.fine=true:=fun u n=>WS.1 hf u n
 have hv:v = .pointer (some ⟨d.b,d.o,none⟩):=by
  rcases R.val with⟨P,i,k⟩|⟨i,_⟩|⟨Q,S,m,i,k⟩
  ·cases i;simp only[VPart,W2,Xs]at k;obtain⟨t,p,_⟩:=k;cases p
  ·exact absurd rfl i
  ·simp only[X4,Zk,T.s.injEq,true_and,YF]at i;obtain⟨rfl,rfl,rfl⟩:=i;exact k
 have B:=R.holds (false,[.s .own d z [row],.any]) (by simp) (.s .own d z [row]) (by simp);have C:=R.own (false,[.s .own d z [row],.any]) (by simp) (.s .own d z [row]) (by simp) rfl;have D:(mkD.at_ d 0 z)=(d.b,d.o):=by simp[mkD]
 rw[D];cases B with
 |s _ _ _ _ q1 U c e f F V G H I =>
  have hz:=G 0 row rfl;cases C with
  |s _ _ _ W Y Z e' lo hi J K p5 L M =>
   refine⟨hv,⟨c,e,f,F,fun j t p=>?_⟩,fun c2 e2 N O hc x i k=>?_,fun u n=>?_,fun x=>?_⟩
   ·have:=H 0 row j t rfl p;simpa using this
   ·rw[J]at hc;cases hc;refine L x i ?_;have:1*z≤d.cap*z:=XN z (by simpa using K);simp only at k;omega
   ·obtain⟨j,y⟩:=WL n;exact⟨I 0 row j u rfl y,fun _=>M 0 row j u rfl y,a u n⟩
   ·have:bG ([(false,[.s .own d z [row],.any])]:eo)=d.b::row.flatMap ownR:=by simp only[bG,W1,Yr,WX,ownR,T.isOwn,W8,cS,q1];simp[←Gl a]
    rw[this]
theorem Inv.putRetP (I:Inv cx D P a.tmps w'){X:List Nat}{od:eo}{v:Value}(R:RetOk w X w' bx od rd v)(p:PendOf P (rd.flatMap (·.2))){dst:Option Nat}(e:putRet mkD D dst rd=some D'):Inv cx D' [] (a.put dst v).tmps w':=by
 unfold Am.putRet at e;split at e
 ·cases e;exact I.dropP
 ·rename_i t;split at e
  case isFalse=>cases e
  rename_i q;rw[WD]at e;obtain⟨s,hs,rfl⟩:=e;have l:VS D s v∧(∀x,(ownBl s).count x≤(bG rd).count x)∧(∀u∈an s,Holds w' u∧u.fine=true)∧(∀u∈rootsO s,u.isOwn=true→OwnT w' u)∧J9 w' s∧(∀k b ts off,s ≠ .im k b ts off)∧(∀f caps,s ≠ .fni f caps):=by
   have j:∀r∈rd,∀u∈r.2,Holds w' u∧u.fine=true:=fun r g u c=>⟨R.holds r (by simp[g]) u c,R.fine r (by simp[g]) u c⟩
   have h:∀r∈rd,∀u∈r.2,u.isOwn=true→OwnT w' u:=fun r g u c y=>R.own r (by simp[g]) u c y
   unfold sE at hs;split at hs
   ·rename_i r;split at hs
    ·rename_i b row A;cases hs;obtain⟨B,C,F,m,G⟩:=R.ptr rfl A;exact⟨B,fun x=>Nat.le_of_eq (G x),fun u c=>⟨(m u c).1,(m u c).2.2⟩,fun u c=>(m u c).2.1,⟨C,F⟩,by simp,by simp⟩
    ·rename_i H;obtain⟨J,ts⟩:=r;rcases R.val with⟨r,g,hv⟩|⟨i,_⟩|⟨d,z,row,g,_⟩
     ·cases g;cases J with
      |true =>cases hs;simp only[VPart,W8]at hv;exact⟨hv,fun x=>by simp[ownBl,bG],fun u c=>j _ (Xe _) u c,fun u c=>h _ (Xe _) u c,trivial,by simp,by simp⟩
      |false =>simp only[VPart,W2,Xs]at hv;obtain⟨t',rfl,n⟩:=hv;cases hs;exact⟨n,fun x=>by simp[ownBl,bG],fun u c=>j _ (Xe _) u c,fun u c=>h _ (Xe _) u c,trivial,by simp,by simp⟩
     ·exact absurd rfl i
     ·cases g;cases hs
   ·rename_i i;cases hs;rcases R.val with⟨r,g,hv⟩|⟨_,hv⟩|⟨d,z,row,g,_⟩
    ·exact absurd g (i r)
    ·refine⟨hv,fun x=>Xj _,fun u c=>?_,fun u c=>?_,trivial,by simp,by simp⟩
     ·simp only[an,WP]at c;obtain⟨r,g,c⟩:=c;exact j r g u c
     ·simp only[rootsO,WP]at c;obtain⟨r,g,c⟩:=c;exact h r g u c
    ·exact absurd g (i _)
  obtain⟨K,n,o,L,M,N,O⟩:=l;have S:fa cx D s:=by
   have g:∀u∈an s,bQ cx D u:=fun u c=>yM (o u c).2
   cases s with
   |im k b ts off=>exact absurd rfl (N k b ts off)
   |fni f caps=>exact absurd rfl (O f caps)
   |_=>exact g
  refine Inv.put (P:=P) (Q:=[]) (by simpa using I) q K ⟨fun u c=>(o u c).1,L,M⟩ S ?_;intro b;rw[p.cnt, ←sD];exact n b
theorem Inv.putRet (I:Inv cx D [] a.tmps w)(g:Grew w w'){v:Value}(R:RetOk w [] w' bx [] rd v){dst:Option Nat}(e:putRet mkD D dst rd=some D'):Inv cx D' [] (a.put dst v).tmps w':=by
 obtain⟨P,c⟩:=gj R.each;have h:=I.world (Out.nil cx D) (g.x []) (R.pend (fun t d=>by
  obtain⟨r,i,d⟩:=WP.1 d;exact⟨r,by simpa using i,d⟩) c cx) (fun b hb=>by
  rw[c.cnt, ←sD]at hb ⊢;have j:=R.once b;rw[W7]at j;obtain⟨k,l⟩:=R.new b (by rw[W7];exact WW.1 hb);have f:w.heap.size≤b:=k.elim id fun q=>by cases q
  refine⟨by omega,?_,.inl (Xu I.frame.size f),l⟩;rcases Xt (bF D b)with q|q
  ·exact q
  ·have:=(I.bnd b (by omega)).2;omega)
 exact h.putRetP R c e
theorem Pt (t:DT):uC mkU t.er=(uC mkD t).map fun p=>((),erL p.2):=by
 cases t with
 |v x=>rfl
 |any=>rfl
 |s k d z rows =>
  rw[aH]
  match rows with
  |[]=>cases k<;>rfl
  |[row]=>
   cases k with
   |own =>simp only[WT,Xc,uC];rw[show(erL row).all T.fine=row.all T.fine from jP T.fine T.fine ry row];split<;>rfl
   |far=>rfl
   |lent h c a=>rfl
  |r1::b::rs=>cases k<;>rfl
theorem S3 (r:Bool×List DT):zw mkU (r.1,erL r.2)=(zw mkD r).map fun p=>((),erL p.2):=by
 obtain⟨g,ts⟩:=r;cases g with
 |true=>rfl
 |false =>
  match ts with
  |[]=>rfl
  |[t]=>rfl
  |[t,u]=>
   cases u with
   |any=>exact Pt t
   |v x=>rfl
   |s k d z r=>simp only[erL,WT,Xc,aH];rfl
  |t::u::v::ts=>cases u<;>rfl
theorem KD (rd:eo):(sE mkU (erR rd):Option (Sl Unit Unit))=(sE mkD rd:Option DSl).map Sl.er:=by
 match rd with
 |[]=>rfl
 |[r]=>
  simp only[erR,WT,Xc,sE];rw[S3];cases zw mkD r with
  |none=>exact xO r.1 r.2
  |some p=>rfl
 |r::a::rs=>rfl
theorem H0 (D:DSt)(dst:Option Nat)(rd:eo):putRet mkU (erD D) dst (erR rd)=(putRet mkD D dst rd).map erD:=by
 cases dst with
 |none=>rfl
 |some t =>
  simp only[putRet,fO];split
  ·rw[KD];cases(sE mkD rd:Option DSl)with
   |none=>rfl
   |some s=>simp only[WB,cE]
  ·rfl
theorem Re (D:DSt)(x:Operand):boolOf mkU (erD D) x=boolOf mkD D x:=by
 simp only[boolOf,cN];cases opd mkD.nil D x with
 |none=>rfl
 |some s =>
  cases s with
  |one u =>
   cases u with
   |s k d z r=>simp[Sl.er,aH]
   |v x=>cases x<;>rfl
   |any=>rfl
  |_=>rfl
theorem Inv.boolOf (I:Inv cx D P a.tmps w){x:Operand}{b:Bool}(e:boolOf mkD D x=some b):a.eval x = .bool b:=by
 unfold Am.boolOf at e;split at e
 ·rename_i c h;cases e;exact(I.opd h).val.1
 ·cases e
theorem Inv.lose (I:Inv cx D [] tm w)(d:t<D.length):Inv cx (bj D (some t) .any) [] tm w:=by
 have h:=Inv.put (P:=[]) (Q:=[]) (s := .any) (y:=tm.getD t undef) (by simpa using I) d trivial ⟨fun u a=>by simp[an]at a,fun u a=>by simp[rootsO]at a,trivial⟩
  (fun u a=>by simp[an]at a) (fun b=>by simp[ownBl])
 have c:t<tm.size:=by rw[←I.size];exact d
 have:tm.setIfInBounds t (tm.getD t undef)=tm:=by
  apply Array.ext
  ·simp
  ·intro i f g;rw[Ze];split
   ·rename_i e;subst e;simp[Array.getD,c]
   ·rfl
 rw[this]at h;exact h
section
variable  {δ β : Type}
def T.rootOf:T δ→Option (Nat×Nat)| .s (.lent h c true) _ _ _=>some (h,c)|_=>none
def oV:Nat→List (T δ)→Option (Nat×Nat×Nat)
 |_,[]=>none
 |j,u::us=>match u.rootOf with|some (h,c)=>some (h,c,j)|none=>oV (j+1) us
def fJ:List (T δ)→List (T δ)→List (T δ)|t::ts,u::us=>(if t.isOwn=true then t else u)::fJ ts us|_,_=>[]
def rb (h:Nat):Nat→List (T δ)→List (T δ)→Bool|_,[],[]=>true|j,t::ts,u::us=>(if t.isOwn=true then decide (u.rootOf=some (h,j))else(u.noLent && !u.isOwn))&&rb h (j+1) ts us|_,_,_=>false
def aggNode (D:St δ β)(ts:List (T δ))(h c j:Nat):Option (Sl δ β×St δ β):=
 match aw D h c with
 |some (.s .own d z rows)=>if((ts.set j .any).all T.noLent=true∧(ts.set j .any).any T.isOwn=false)then(dL (fun _=>some .any) (St.dead (dv h c) (qHC h c) D) h c []).map fun D'=>(.agg (ts.set j (.s .own d z rows)),D')else none
 |_=>none
def homeTake (D:St δ β)(x:Operand):Option (Sl δ β×St δ β):=
 match x with
 | .tmp t =>
  match D[t]? with
  |some (.box b ts)=>if ts.all T.noLent=true then some (.box b ts,bm t D)else none
  |some (.pb h off)=>
   if off=0 then
    match D[h]? with
    |some (.box b ts)=>if ts.all T.noLent=true then some (.box b ts,bm h D)else none
    |_=>none
   else none
  |some (.al h c st lo len)=>
   match db D h c st with
   |some (.s .own d z rows)=>if lo=0∧len=rows.length then(dL (fun _=>some .any) (St.dead (dv h c) (qHC h c) D) h c st).map fun D'=>(.one (.s .own d z rows),D')else none
   |_=>none
  |some (.one u)=>if u.isOwn=true then some (.one u,bm t D)else
   match u.rootOf with
   |some (h,c)=>
    match aw D h c with
    |some (.s .own d z rows)=>(dL (fun _=>some .any) (St.dead (dv h c) (qHC h c) D) h c []).map fun D'=>(.one (.s .own d z rows),D')
    |_=>none
   |none=>none
  |some (.agg ts)=>if ts.all T.noLent=true then(if ts.any T.isOwn=true then some (.agg ts,bm t D)else none)else
   match oV 0 ts with
   |some (h,c,j)=>
    match D[h]? with
    |some (.box _ a)=>if rb h 0 a ts=true∧a.all T.noLent=true∧(fJ a ts).any T.isOwn=true then some (.agg (fJ a ts),bm h D)else aggNode D ts h c j
    |_=>aggNode D ts h c j
   |none=>none
  |_=>none
 |_=>none
def mA (rows:List (List (T δ))):T δ→Option (T δ)| .s k d z _=>some (.s k d z rows)|_=>none
def kO:List (T δ)→List (T δ)→List (T δ)|t::ts,u::us=>(if t.isOwn=true then u else t)::kO ts us|_,_=>[]
def nodePut (D:St δ β)(h c:Nat)(u:T δ):Option (St δ β):=
 match aw D h c,u with
 |some (.s _ _ z _),.s .own _ b a=>if b=z then dL (mA a) (St.dead (dv h c) (nU h c) D) h c []else none
 |_,_=>none
def homePut0 (D D1:St δ β)(x:Operand)(o:Bool×List (T δ)):Option (St δ β):=
 match x with
 | .tmp t =>
  match D[t]? with
  |some (.box b _)=>some (bj D1 (some t) (.box b o.2))
  |some (.pb h _)=>
   match D[h]? with
   |some (.box b _)=>some (bj D1 (some h) (.box b o.2))
   |_=>none
  |some (.al h c st _ _)=>
   match db D h c st,o.2 with
   |some (.s _ _ z _),[.s .own _ f a]=>if f=z then dL (mA a) (St.dead (dv h c) (nU h c) D) h c st else none
   |_,_=>none
  |some (.one u)=>
   match o.2 with
   |[.s .own d z rows]=>if u.isOwn=true then some (bj D1 (some t) (.one (.s .own d z rows)))else
    match u.rootOf with
    |some (h,c)=>nodePut D h c (.s .own d z rows)
    |none=>none
   |_=>none
  |some (.agg ts)=>if ts.all T.noLent=true then some (bj D1 (some t) (.agg o.2))else
   match oV 0 ts with
   |some (h,c,j)=>
    match D[h]? with
    |some (.box b e)=>if rb h 0 e ts=true∧e.all T.noLent=true∧(fJ e ts).any T.isOwn=true then some (bj D1 (some h) (.box b (kO e o.2)))else(o.2[j]?).bind (nodePut D h c)
    |_=>(o.2[j]?).bind (nodePut D h c)
   |none=>none
  |_=>none
 |_=>none
end
theorem vQ (t:DT):t.er.rootOf=t.rootOf:=by
 cases t with
 |v x=>rfl
 |any=>rfl
 |s k d z r =>
  rw[aH];cases k with
  |lent h c a=>cases a<;>rfl
  |_=>rfl
theorem Bb:∀(j:Nat)(us:List DT),oV j (erL us)=oV j us
 |_,[]=>rfl
 |j,u::us=>by
  simp only[erL,WT,oV,vQ];cases u.rootOf with
  |some p=>rfl
  |none=>exact Bb (j+1) us
theorem Gk:∀(ts us:List DT),erL (fJ ts us)=fJ (erL ts) (erL us)
 |[],us=>by cases us<;>rfl
 |t::ts,[]=>rfl
 |t::ts,u::us=>by have a:=Gk ts us;simp only[erL,WT,fJ,dz]at a ⊢;rw[a];cases t.isOwn<;>rfl
theorem OA:∀(ts us:List DT),erL (kO ts us)=kO (erL ts) (erL us)
 |[],us=>by cases us<;>rfl
 |t::ts,[]=>rfl
 |t::ts,u::us=>by have a:=OA ts us;simp only[erL,WT,kO,dz]at a ⊢;rw[a];cases t.isOwn<;>rfl
theorem Bc (h:Nat):∀(j:Nat)(ts us:List DT),rb h j (erL ts) (erL us)=rb h j ts us
 |_,[],[]=>rfl
 |_,[],u::us=>rfl
 |_,t::ts,[]=>rfl
 |j,t::ts,u::us=>by have a:=Bc h (j+1) ts us;simp only[erL,WT,rb,dz,vQ,lH]at a ⊢;rw[a]
theorem vO (ts:List DT):(erL ts).any T.isOwn=ts.any T.isOwn:=by simp only[erL,Y8];congr 1;funext t;exact dz t
theorem mZ (ts:List DT):(erL ts).all T.noLent=ts.all T.noLent:=jP T.noLent T.noLent lH ts
theorem H1 (ts:List DT)(j:Nat)(u:DT):(erL ts).set j u.er=erL (ts.set j u):=by simp[erL,YB]
theorem Ky (D:DSt)(h c:Nat):dL (fun _=>some .any) (St.dead (dv h c) (qHC h c) (erD D)) h c []=(dL (fun _=>some .any) (St.dead (dv h c) (qHC h c) D) h c []).map erD:=by rw[show St.dead (dv h c) (qHC h c) (erD D)=erD (St.dead (dv h c) (qHC h c) D)from(mY _ _ D).symm,rz (f:=fun _=>some .any) (fun _=>rfl)]
theorem y3 (D:DSt)(ts:List DT)(h c j:Nat):aggNode (erD D) (erL ts) h c j=(aggNode D ts h c j).map fun r=>(r.1.er,erD r.2):=by
 unfold aggNode;rw[lG];cases aw D h c with
 |none=>rfl
 |some n =>
  cases n with
  |v x=>rfl
  |any=>rfl
  |s k d z rows =>
   cases k with
   |own =>
    simp only[WB,aH];rw[show(erL ts).set j (T.any:T Unit)=erL (ts.set j .any)from H1 ts j .any,mZ,vO];split
    ·rw[Ky,XD,XD];congr 1;funext D';simp only[Function.comp,Sl.er];rw[←H1,aH]
    ·rfl
   |_=>simp[aH]
theorem ES (D:DSt)(h c:Nat)(u:DT):nodePut (erD D) h c u.er=(nodePut D h c u).map erD:=by
 unfold nodePut;rw[lG];cases aw D h c with
 |none=>rfl
 |some n =>
  cases n with
  |v x=>rfl
  |any=>rfl
  |s k d z rows =>
   simp only[WB,aH];cases u with
   |v x=>rfl
   |any=>rfl
   |s k' b e a =>
    rw[aH];cases k' with
    |own =>
     simp only;split
     ·rw[show St.dead (dv h c) (nU h c) (erD D)=erD (St.dead (dv h c) (nU h c) D)from(mY _ _ D).symm,rz (f:=mA a)];intro t;cases t<;>simp[mA,aH,dC,xK]
     ·rfl
    |_=>rfl
theorem M0 (D:DSt)(x:Operand):homeTake (erD D) x=(homeTake D x).map fun r=>(r.1.er,erD r.2):=by
 cases x with
 |tmp t =>
  simp only[homeTake,cl];cases D[t]? with
  |none=>rfl
  |some s =>
   cases s with
   |box b ts =>
    simp only[WB,Sl.er];rw[jP T.noLent T.noLent lH];split
    ·simp only[WB,kv,Sl.er]
    ·rfl
   |pb h off =>
    simp only[WB,Sl.er,cl];split
    ·cases D[h]? with
     |none=>rfl
     |some s =>
      cases s with
      |box b ts =>
       simp only[WB,Sl.er];rw[jP T.noLent T.noLent lH];split
       ·simp only[WB,kv,Sl.er]
       ·rfl
      |_=>rfl
    ·rfl
   |al h c st lo len =>
    simp only[WB,Sl.er,sQ];cases db D h c st with
    |none=>rfl
    |some n =>
     cases n with
     |v x=>rfl
     |any=>rfl
     |s k d z rows =>
      cases k with
      |own =>
       simp only[WB,aH,W6];split
       ·rw[show St.dead (dv h c) (qHC h c) (erD D)=erD (St.dead (dv h c) (qHC h c) D)from(mY _ _ D).symm,rz (f:=fun _=>some .any) (fun _=>rfl),XD,XD];congr 1;funext D';simp[Sl.er,aH]
       ·rfl
      |_=>simp[aH]
   |one u =>
    simp only[WB,Sl.er,dz];split
    ·simp only[WB,kv,Sl.er]
    ·rw[vQ];cases u.rootOf with
     |none=>rfl
     |some p =>
      obtain⟨h,c⟩:=p;simp only[lG];cases aw D h c with
      |none=>rfl
      |some n =>
       cases n with
       |v x=>rfl
       |any=>rfl
       |s k d z rows =>
        cases k with
        |own =>simp only[WB,aH];rw[Ky,XD,XD];congr 1;funext D';simp[Sl.er,aH]
        |_=>simp[aH]
   |agg ts =>
    simp only[WB,Sl.er];rw[mZ,vO,Bb];split
    ·split
     ·simp only[WB,kv,Sl.er]
     ·rfl
    ·cases oV 0 ts with
     |none=>rfl
     |some p =>
      obtain⟨h,c,j⟩:=p;simp only[cl];cases D[h]? with
      |none=>exact y3 D ts h c j
      |some s =>
       cases s with
       |box b a =>
        simp only[WB,Sl.er];rw[Bc,mZ, ←Gk,vO];split
        ·simp only[WB,kv,Sl.er]
        ·exact y3 D ts h c j
       |_=>exact y3 D ts h c j
   |_=>rfl
 |_=>rfl
theorem MZ (D D1:DSt)(x:Operand)(o:Bool×List DT):homePut0 (erD D) (erD D1) x (o.1,erL o.2)=(homePut0 D D1 x o).map erD:=by
 cases x with
 |tmp t =>
  simp only[homePut0,cl];cases D[t]? with
  |none=>rfl
  |some s =>
   cases s with
   |box b ts=>simp only[WB,Sl.er,cE]
   |pb h off =>
    simp only[WB,Sl.er,cl];cases D[h]? with
    |none=>rfl
    |some s=>cases s<;>first|rfl|simp only[WB,Sl.er,cE]
   |al h c st lo len =>
    simp only[WB,Sl.er,sQ];cases db D h c st with
    |none=>rfl
    |some n =>
     cases n with
     |v x=>rfl
     |any=>rfl
     |s k d z rows =>
      simp only[WB,aH];obtain⟨g,us⟩:=o
      match us with
      |[]=>rfl
      |[.v x]=>rfl
      |[.any]=>rfl
      |[.s .far e i a]=>simp[aH]
      |[.s (.lent _ _ _) e i a]=>simp[aH]
      |[.s .own e i a]=>
       simp only[WT,Xc,aH];split
       ·rw[show St.dead (dv h c) (nU h c) (erD D)=erD (St.dead (dv h c) (nU h c) D)from(mY _ _ D).symm,rz (f:=mA a)];intro t;cases t<;>simp[mA,aH,dC,xK]
       ·rfl
      |u::u'::us =>
       cases u with
       |v x=>rfl
       |any=>rfl
       |s k d z r=>cases k<;>rfl
   |one u =>
    simp only[WB,Sl.er];obtain⟨g,us⟩:=o
    match us with
    |[]=>rfl
    |[.v x]=>rfl
    |[.any]=>rfl
    |[.s .far e i a]=>simp[aH]
    |[.s (.lent _ _ _) e i a]=>simp[aH]
    |[.s .own e i a]=>
     simp only[WT,Xc,aH,dz,vQ];split
     ·simp[aH,cE,Sl.er]
     ·cases u.rootOf with
      |none=>rfl
      |some p =>have:=ES D p.1 p.2 (.s .own e i a);rw[aH]at this;exact this
    |u::u'::us =>
     cases u with
     |v x=>rfl
     |any=>rfl
     |s k d z r=>cases k<;>rfl
   |agg ts =>
    simp only[WB,Sl.er,mZ,Bb];split
    ·simp only[WB,Sl.er,cE]
    ·have hb:∀(h c j:Nat),((erL o.2)[j]?).bind (nodePut (erD D) h c)=((o.2[j]?).bind (nodePut D h c)).map erD:=by
      intro h c j;simp only[erL,WQ];cases o.2[j]? with
      |none=>rfl
      |some u=>exact ES D h c u
     cases oV 0 ts with
     |none=>rfl
     |some p =>
      obtain⟨h,c,j⟩:=p;simp only[cl];cases D[h]? with
      |none=>exact hb h c j
      |some s =>
       cases s with
       |box b l =>
        simp only[WB,Sl.er];rw[Bc,mZ, ←Gk,vO];split
        ·simp only[WB,cE,Sl.er,OA]
        ·exact hb h c j
       |_=>exact hb h c j
   |_=>rfl
 |_=>rfl
theorem qx {δ β:Type}(t:Nat)(D:St δ β):(bm t D).length=D.length:=by simp[bm,St.dead]
theorem ff {α:Type}{l:List α}{x:α}(h:l[t]?=some x):t<l.length:=by
 rcases WI t l.length with g|g
 ·exact g
 ·rw[WF g]at h;cases h
theorem CW {s:DSl}(h:D[t]?=some s)(b:Nat):bF (bm t D) b+(ownBl s).count b=bF D b:=by
 have hs:(c9 t D)[t]?=some (s.clean t):=by unfold c9;rw[WQ];unfold St.dead;rw[WQ,h];rfl
 have a:=bY ownBl (.any:DSl) b (c9 t D) t _ hs;have d:(ownBl (.any:DSl)).count b=0:=rfl;have e:=EJ t D b;rw[Dh]at a;have c:bm t D=(c9 t D).set t .any:=rfl;rw[c];unfold bF at *;omega
theorem OR (a:t<tm.size):tm.setIfInBounds t (tm.getD t undef)=tm:=by
 apply Array.ext
 ·simp
 ·intro i b c;rw[Ze];split
  ·rename_i e;subst e;simp[Array.getD,a]
  ·rfl
theorem Inv.takeSlot (I:Inv cx D [] tm w){s:DSl}(hs:D[t]?=some s)(l:(∃b ts,s = .box b ts)∨(∃u,s = .one u)∨∃ts,s = .agg ts)(L:∀u∈rootsO s,u.noLent=true)(hv:∀D,VS D s y):∃P,Inv cx (bm t D) P tm w∧Out cx (bm t D) (ownBl s)∧AOk w (ownBl s) s y∧∀b,(ownBl s).count b≤1:=by
 have a:=WC hs;have M:=I.mem s a;have m:=I.kind s a;have i:an s=rootsO s:=by rcases l with⟨b,ts,rfl⟩|⟨u,rfl⟩|⟨ts,rfl⟩<;>rfl
 have n:∀u∈rootsO s,∃y,VT u y:=by
  have B:=I.val t s hs;rcases l with⟨b,ts,rfl⟩|⟨u,rfl⟩|⟨ts,rfl⟩
  ·obtain⟨c,e,f,N,o⟩:=M.2.2.1;intro u g;obtain⟨j,Q⟩:=WL g;obtain⟨y,_,R⟩:=o j u Q;exact⟨y,R⟩
  ·intro v hv;simp[rootsO]at hv;subst hv;exact⟨_,B⟩
  ·obtain⟨cs,_,o⟩:=B;exact o.each
 obtain⟨P,G⟩:=gj n;have C:∀b,((rootsO s).flatMap ownR).count b≤(ownBl s).count b:=by
  intro b;rcases l with⟨H,ts,rfl⟩|⟨u,rfl⟩|⟨ts,rfl⟩
  ·simp only[rootsO,ownBl,XL];omega
  ·simp[rootsO,ownBl]
  ·simp[rootsO,ownBl]
 have q:∀p∈P,p.1∈rootsO s:=fun p A=>by rw[←G.1];exact WU.2 ⟨p,A,rfl⟩
 have J:=Inv.take I (cs:=P) hs (fun p A=>⟨q p A,i ▸ q p A,G.2 p A⟩) (fun p A h c S d z r e=>by have:=L _ (q p A);rw[e]at this;cases this) (fun b=>by rw[G.cnt];exact C b) (by rcases l with⟨H,ts,rfl⟩|⟨u,rfl⟩|⟨ts,rfl⟩<;>simp) (by rcases l with⟨H,ts,rfl⟩|⟨u,rfl⟩|⟨ts,rfl⟩<;>simp);rw[WX]at J;have F:∀b,(ownBl s).count b≤1:=fun b=>by have N:=CW hs b;have o:=I.once b;rw[cX]at o;omega
 have O:Out cx (bm t D) (ownBl s):=fun b hb=>by have W:=WW.2 hb;have N:=CW hs b;have o:=I.once b;rw[cX]at o;have X:=cQ a hb;exact⟨(I.bnd b (by omega)).1,by omega⟩
 refine⟨P,J,O,⟨hv,M,fun D'=>?_,fun b hb=>⟨hb,(I.bnd b (by have:=cQ a hb;omega)).2⟩⟩,F⟩;have K:∀u∈rootsO s,bQ cx D u→bQ ⟨w,ownBl s⟩ D' u:=by
  intro u g l;have U:=L u g;cases u with
  |v x=>trivial
  |any=>trivial
  |s k d z r =>
   cases k with
   |own=>trivial
   |lent h c S=>cases U
   |far=>exact fun x V=>J.farX O (l x V)
 rcases l with⟨H,ts,rfl⟩|⟨u,rfl⟩|⟨ts,rfl⟩
 ·exact fun u g=>K u g (m u g)
 ·exact fun u g=>K u g (m u g)
 ·exact fun u g=>K u g (m u g)
theorem kE {ts:List DT}(h:ts.all T.noLent=true):∀u∈ts,u.noLent=true:=fun u a=>WS.1 h u a
theorem Dec.addr_sp (h:d.sp=none):d.addr=if d.nil=true then none else some ⟨d.b,d.o,none⟩:=Dec.addr_none h
theorem Inv.alNode (I:Inv cx D P tm w){c:Nat}{rows:List (List DT)}(i:D[t]?=some (.al h c st 0 rows.length))(b:db D h c st=some (.s .own d z rows)):
  ∃u,aw D h c=some u∧u.isOwn=true∧getN u st=some (.s .own d z rows)∧Holds w (.s .own d z rows)∧OwnT w (.s .own d z rows)∧VT (.s .own d z rows:DT) (tm.getD t undef):=by
 obtain⟨o,p,n,ad,a,j,k,q,e⟩:=I.val t _ i;obtain⟨t0,r,f,g1,l,g3,g4,m,g⟩:=I.node a;simp only[db,g1,Wy]at b;rw[g3]at b;cases b;refine⟨t0,g1,l,g3,m,g,?_⟩;show tm.getD t undef=_;rw[k,Nat.sub_zero,e rfl,Dec.addr_sp g.sp]
theorem Inv.nodeTake (I:Inv cx D [] tm w){c:Nat}{rows:List (List DT)}(g1:aw D h c=some (.s .own d z rows))(e:dL (fun _=>some .any) (St.dead (dv h c) (qHC h c) D) h c []=some D1):
  ∃P,Inv cx D1 P tm w∧Out cx D1 (bl (.s .own d z rows))∧(∀b,(bl (.s .own d z rows)).count b≤1)∧(∀b∈bl (.s .own d z rows),b<w.heap.size)∧Holds w (.s .own d z rows)∧OwnT w (.s .own d z rows):=by
 have y:=I.dead (dv h c) (qHC h c);have i:=iR (p:=dv h c) (q:=qHC h c) g1 rfl;unfold dL at e;rw[i,Wy]at e;simp only[gN,Wy]at e;obtain⟨A,B,f,o,j,r⟩:=cj g1;have k:=I.mem A f;have u:=k.1 _ o;have v:=k.2.1 _ j rfl;have g:=I.bl_once g1 rfl;have l:∀b∈bl (.s .own d z rows),0<bF D b:=fun b hb=>cQ f (r rfl b hb)
 have m:∀b∈bl (.s .own d z rows),b<w.heap.size:=fun b hb=>(I.bnd b (by have:=l b hb;omega)).2
 have a:ownR (.s .own d z rows:DT)=bl (.s .own d z rows):=by simp[ownR,T.isOwn]
 have t:=y.upd (P':=[(.s .own d z rows,.slice d.addr rows.length d.cap)]) (w':=w) e
  {at_:=i,own:=rfl,holds := .any,ownT:=fun h=>(by cases h),kind := .inr rfl,val:=fun _ h=>h.one,
   cnt:=fun b=>by
    rw[lF,cX,a];have C:(ownR (.any:DT)).count b=0:=rfl;split
    ·omega
    ·have:=g b;omega,
   new:=fun b hb n=>by exfalso;rw[lF,cX,a]at n;have C:(ownR (.any:DT)).count b=0:=rfl;have:=m b (WW.1 (by omega));omega,
   hides:=fun s hs=>(t8 s hs).1,
   speak:=fun s hs st hsp=>absurd hsp ((t8 s hs).2 st),
   size:=Xj _,same:=fun _ _ _=>rfl,os:=rfl,tape:=rfl,output:=rfl,
   pend:=fun p x=>by rw[WG]at x;subst x;exact⟨rfl,u,fun _=>v,fun h=>by cases h⟩ }
 refine⟨_,t,fun b hb=>?_,g,m,u,v⟩;have q1:=t.once b;rw[lF,cX,a]at q1;have F:=WW.2 hb;exact⟨(t.bnd b (by rw[lF,cX,a];omega)).1,by omega⟩
theorem Inv.root {c:Nat}(b:u.rootOf=some (h,c))(e:bQ cx D u)(hv:VT u y):∃d z rows,aw D h c=some (.s .own d z rows)∧y = .slice d.addr rows.length d.cap:=by
 cases u with
 |v x=>cases b
 |any=>cases b
 |s k d z r =>
  cases k with
  |lent j l f =>
   cases f with
   |false=>cases b
   |true =>cases b;obtain⟨t,g1,m,g3,g4⟩:=e;obtain⟨g,a,rfl,i⟩:=g4 rfl;exact⟨d,g,a,g1,by rw[i];exact hv⟩
  |_=>cases b
theorem xk:∀{j:Nat}{us:List DT}{h c i:Nat},oV j us=some (h,c,i)→∃u,j≤i∧us[i-j]?=some u∧u.rootOf=some (h,c)
 |j,[],h,c,i,e=>by cases e
 |j,u::us,h,c,i,e=>by
  unfold oV at e;cases a:u.rootOf with
  |some p =>rw[a]at e;cases e;exact⟨u,Xj _,by simp,a⟩
  |none =>rw[a]at e;obtain⟨v,f,b,d⟩:=xk e;refine⟨v,by omega,?_,d⟩;rw[show i-j=(i-(j+1))+1 by omega];simpa using b
theorem FI {h:Nat}:∀{j:Nat}{ts us:List DT},rb h j ts us=true→ts.length=us.length∧∀(i:Nat)(t u:DT),ts[i]?=some t→us[i]?=some u →
  (t.isOwn=true→u.rootOf=some (h,j+i))∧(t.isOwn=false→u.noLent=true∧u.isOwn=false)
 |_,[],[],_=>⟨rfl,fun i t u h=>by simp at h⟩
 |_,[],u::us,e=>by cases e
 |_,t::ts,[],e=>by cases e
 |j,t::ts,u::us,e=>by
  unfold rb at e;rw[W0]at e;obtain⟨a,d⟩:=e;obtain⟨f,g⟩:=FI d;refine⟨by simp[f],fun i t' u' hi b=>?_⟩;cases i with
  |zero =>
   simp at hi b;subst hi;subst b;split at a
   ·rename_i c;exact⟨fun _=>by simpa using a,fun q=>by rw[c]at q;cases q⟩
   ·rename_i c;refine⟨fun q=>absurd q c,fun _=>?_⟩;rw[W0]at a;exact⟨a.1,by simpa using a.2⟩
  |succ i =>have:=g i t' u' (by simpa using hi) (by simpa using b);rw[show j+(i+1)=j+1+i by omega];exact this
theorem Eb:∀{ts us:List DT}{i:Nat}{x:DT},(fJ ts us)[i]?=some x→∃t u,ts[i]?=some t∧us[i]?=some u∧x=if t.isOwn=true then t else u
 |[],us,i,x,e=>by cases us<;>simp[fJ]at e
 |t::ts,[],i,x,e=>by simp[fJ]at e
 |t::ts,u::us,0,x,e=>by simp only[fJ,Xw,Xd]at e;exact⟨t,u,rfl,rfl,e.symm⟩
 |t::ts,u::us,i+1,x,e=>by simp only[fJ,Yp]at e;obtain⟨t',u',a,b,c⟩:=Eb e;exact⟨t',u',by simpa using a,by simpa using b,c⟩
theorem Lv:∀{ts us:List DT},ts.length=us.length→(fJ ts us).length=ts.length
 |[],[],_=>rfl
 |[],u::us,h=>by simp at h
 |t::ts,[],h=>by simp at h
 |t::ts,u::us,h=>by simp only[fJ,W4];rw[Lv (by simpa using h)]
theorem Lw:∀{ts us:List DT},(∀(i:Nat)(t u:DT),ts[i]?=some t→us[i]?=some u→t.isOwn=false→u.isOwn=false)→∀b,((fJ ts us).flatMap ownR).count b≤(ts.flatMap ownR).count b
 |[],us,_,b=>by cases us<;>simp[fJ]
 |t::ts,[],_,b=>by simp[fJ]
 |t::ts,u::us,h,b=>by
  have c:=Lw (ts:=ts) (us:=us) (fun i t u d e=>h (i+1) t u (by simpa using d) (by simpa using e)) b;simp only[fJ,W1,W3];cases a:t.isOwn with
  |true=>rw[Wz rfl];omega
  |false =>rw[WM XP,fK (h 0 t u rfl rfl a),fK a];simpa using c
theorem Ec:∀{ts us:List DT}{i:Nat}{x:DT},(kO ts us)[i]?=some x→∃t u,ts[i]?=some t∧us[i]?=some u∧x=if t.isOwn=true then u else t
 |[],us,i,x,e=>by cases us<;>simp[kO]at e
 |t::ts,[],i,x,e=>by simp[kO]at e
 |t::ts,u::us,0,x,e=>by simp only[kO,Xw,Xd]at e;exact⟨t,u,rfl,rfl,e.symm⟩
 |t::ts,u::us,i+1,x,e=>by simp only[kO,Yp]at e;obtain⟨t',u',a,b,c⟩:=Ec e;exact⟨t',u',by simpa using a,by simpa using b,c⟩
theorem Lx:∀{ts us:List DT}(b:Nat),((kO ts us).flatMap ownR).count b≤(us.flatMap ownR).count b
 |[],us,b=>by cases us<;>simp[kO]
 |t::ts,[],b=>by simp[kO]
 |t::ts,u::us,b=>by
  have c:=Lx (ts:=ts) (us:=us) b;simp only[kO,W1,W3];cases a:t.isOwn with
  |true=>rw[Wz rfl];omega
  |false=>rw[WM XP,fK a];simp;omega
theorem EX (h:u.noLent=true):u.isOwn=true∨bl u=[]∨∃d z r,u = .s .far d z r:=by
 cases u with
 |v x=>exact .inr (.inl (by simp[bl]))
 |any=>exact .inr (.inl (by simp[bl]))
 |s k d z r=>cases k<;>first|exact .inl rfl|exact .inr (.inr ⟨_,_,_,rfl⟩)|cases h
theorem HL {X:List Nat}(a:u.noLent=true)(e:bQ cx D u)(hf:∀b,cx.far b→(Cx.mk w X).far b):bQ ⟨w,X⟩ D' u:=by
 cases u with
 |v x=>trivial
 |any=>trivial
 |s k d z r =>
  cases k with
  |own=>trivial
  |lent h c g=>cases a
  |far=>exact fun x f=>hf x (e x f)
theorem Inv.aggNode (I:Inv cx D [] a.tmps w){ts:List DT}(hD:D[t]?=some (.agg ts)){c j:Nat}(hj:ts[j]?=some u)(O:u.rootOf=some (h,c)){s:DSl}(e:Am.aggNode D ts h c j=some (s,D1)):∃d z rows,aw D h c=some (.s .own d z rows)∧s = .agg (ts.set j (.s .own d z rows))∧ownBl s=bl (.s .own d z rows) ∧
   ∃P,Inv cx D1 P a.tmps w∧Out cx D1 (ownBl s)∧AOk w (ownBl s) s (a.eval (.tmp t))∧(∀b,(ownBl s).count b≤1)∧(de s).isSome=true∧OwnT w (.s .own d z rows):=by
 obtain⟨cs,Q,m⟩:=I.val t _ hD;have o:=WC hD;have R:=I.mem _ o;have C:=I.kind _ o;have n:j<ts.length:=ff hj;have p:j<cs.toList.length:=by rw[←m.1];exact n
 have G:=m.2 j u _ hj (WE p);obtain⟨d,z,rows,g1,S⟩:=Inv.root O (C u (WC hj)) G;unfold Am.aggNode at e;rw[g1]at e;simp only at e;split at e
 case isFalse=>cases e
 rename_i k;rw[WD]at e;obtain⟨D',U,V⟩:=e;cases V;obtain⟨P,K,L,W,X,Y,M⟩:=I.nodeTake g1 U;have r:∀v∈ts.set j .any,v.isOwn=false:=by have:=k.2;rw[YI]at this;intro v hv;have:=this v hv;simpa using this
 have F:∀b,((ts.set j (.s .own d z rows)).flatMap ownR).count b=(bl (.s .own d z rows)).count b:=by
  intro b;have q:=bY ownR (.s .own d z rows:DT) b ts j u hj;have B:=bY ownR (.any:DT) b ts j u hj;have Z:((ts.set j .any).flatMap ownR)=[]:=by rw[WY];exact fun v hv=>fK (r v hv)
  have q4:(ownR (.any:DT)).count b=0:=rfl;have q5:ownR (.s .own d z rows:DT)=bl (.s .own d z rows):=by simp[ownR,T.isOwn]
  rw[Z]at B;rw[q5]at q;simp only[Zx]at B;omega
 have g:∀(i:Nat)(v:DT),(ts.set j (.s .own d z rows))[i]?=some v→(i=j∧v = .s .own d z rows)∨(i≠j∧ts[i]?=some v∧v∈ts.set j .any):=by
  intro i v hi;by_cases q:i=j
  ·subst q;rw[WN n]at hi;cases hi;exact .inl ⟨rfl,rfl⟩
  ·rw[WR (fun H=>q H.symm)]at hi;exact .inr ⟨q,hi,WC (i:=i) (by rw[WR (fun H=>q H.symm)];exact hi)⟩
 have Z0:∀b,b∈ownBl (.agg (ts.set j (.s .own d z rows)))↔b∈bl (.s .own d z rows):=fun b=>by rw[←WW, ←WW];show 0<((ts.set j (.s .own d z rows)).flatMap ownR).count b↔_;rw[F]
 have f:ownBl (.agg (ts.set j (.s .own d z rows)))=bl (.s .own d z rows):=by
  show(ts.set j (.s .own d z rows)).flatMap ownR=_;have J:∀(l:List DT)(i:Nat),i<l.length→(∀v∈l.set i .any,v.isOwn=false)→(l.set i (.s .own d z rows)).flatMap ownR=bl (.s .own d z rows):=by
   intro l;induction l with
   |nil=>intro i hi;simp at hi
   |cons x l ih =>
    intro i hi hv;cases i with
    |zero =>
     simp only[List.set_cons_zero,W1];have:l.flatMap ownR=[]:=by rw[WY];exact fun v y=>fK (hv v (by simp[y]))
     rw[this];simp[ownR,T.isOwn]
    |succ i =>simp only[List.set_cons_succ,W1];rw[fK (hv x (by simp)),ih i (by simpa using hi) (fun v y=>hv v (by simp[y]))];rfl
  exact J ts j n r
 refine⟨d,z,rows,g1,rfl,f,P,K,?_,?_,?_,?_,M⟩
 ·rw[f];exact L
 ·rw[f];refine⟨fun _=>⟨cs,Q,⟨by rw[Yj];exact m.1,fun i v y' hi A=>?_⟩⟩,⟨fun v hv=>?_,fun v hv N=>?_,trivial⟩,fun D' v hv=>?_,fun b hb=>?_⟩
  ·rcases g i v hi with⟨rfl,rfl⟩|⟨_,q,_⟩
   ·rw[WE p]at A;cases A;exact S
   ·exact m.2 i v y' q A
  ·obtain⟨i,hi⟩:=WL hv;rcases g i v hi with⟨rfl,rfl⟩|⟨_,q,_⟩
   ·exact Y
   ·exact R.1 v (WC q)
  ·obtain⟨i,hi⟩:=WL hv;rcases g i v hi with⟨rfl,rfl⟩|⟨_,q,B⟩
   ·exact M
   ·rw[r v B]at N;cases N
  ·obtain⟨i,hi⟩:=WL hv;rcases g i v hi with⟨rfl,rfl⟩|⟨_,q,B⟩
   ·trivial
   ·exact HL (kE k.1 v B) (C v (WC q)) fun b hb=>K.farX L hb
  ·rw[f]at hb;exact⟨hb,X b hb⟩
 ·intro b;rw[f];exact W b
 ·simp only[de];rw[Wz]
  ·rfl
  ·rw[XX];exact⟨_,List.mem_set n _,rfl⟩
theorem Inv.boxAgg (I:Inv cx D [] a.tmps w){ts c:List DT}{b:Nat×Nat}(hD:D[t]?=some (.agg ts))(hb:D[h]?=some (.box b c))(V:rb h 0 c ts=true)(W:c.all T.noLent=true):
  ∃P,Inv cx (bm h D) P a.tmps w∧Out cx (bm h D) (ownBl (.agg (fJ c ts)))∧AOk w (ownBl (.agg (fJ c ts))) (.agg (fJ c ts)) (a.eval (.tmp t))∧(∀x,(ownBl (.agg (fJ c ts))).count x≤1) ∧
   (Out cx (bm h D) (ownBl (.box b c))∧b.1∉ownBl (.agg (fJ c ts))∧b.1<w.heap.size)∧∀cs:Array Value,a.eval (.tmp t)= .agg cs→∀(i:Nat)(x:DT)(y:Value),c[i]?=some x→x.isOwn=true→cs.toList[i]?=some y→VT x y:=by
 obtain⟨cs,O,F⟩:=I.val t _ hD;have p:=WC hD;have X:=I.mem _ p;have G:=I.kind _ p;obtain⟨P,Q,R,J,S⟩:=I.takeSlot hb (.inl ⟨b,c,rfl⟩) (kE W) (y := .pointer (some ⟨b.1,b.2,none⟩)) (fun _=>rfl);obtain⟨l,e⟩:=FI V;have m:=Lw (ts:=c) (us:=ts) (fun i t u q1 q2 j=>((e i t u q1 q2).2 j).2);have A:∀x∈ownBl (.agg (fJ c ts)),x∈ownBl (.box b c):=fun x f=>by have q:=m x;have q2:=WW.2 (show x∈(fJ c ts).flatMap ownR from f);exact Ya _ (WW.1 (by omega))
 have U:Out cx (bm h D) (ownBl (.agg (fJ c ts))):=fun x f=>R x (A x f)
 have B:∀(i:Nat)(x:DT)(y:Value),c[i]?=some x→x.isOwn=true→cs.toList[i]?=some y→VT x y:=by
  intro i x y hi g o;have K:i<ts.length:=by rw[←l];exact ff hi
  have hu:=WE K;have L:=(e i x _ hi hu).1 g;obtain⟨d,z,rows,g1,Y⟩:=Inv.root L (G _ (WC hu)) (F.2 i _ y hu o);have:aw D h (0+i)=some x:=by rw[Yk];unfold aw;rw[hb];exact hi
  rw[this]at g1;cases g1;exact Y
 have n:∀x∈fJ c ts,(x∈c∧x.isOwn=true)∨(x∈ts∧x.noLent=true∧x.isOwn=false):=by
  intro x f;obtain⟨i,hi⟩:=WL f;obtain⟨t',u',q1,q2,j⟩:=Eb hi;cases g:t'.isOwn with
  |true=>rw[g,Wz rfl]at j;subst j;exact .inl ⟨WC q1,g⟩
  |false =>rw[g,WM XP]at j;subst j;have:=(e i t' x q1 q2).2 g;exact .inr ⟨WC q2,this.1,this.2⟩
 have H:∀x,(ownBl (.agg (fJ c ts))).count x≤1:=fun x=>by
  have q:=m x;have q2:=S x;have j:(ownBl (.box b c)).count x=(if b.1=x then 1 else 0)+(c.flatMap ownR).count x:=by simp only[ownBl,XL,Yc];omega
  show((fJ c ts).flatMap ownR).count x≤1;omega
 have M:b.1∉ownBl (.agg (fJ c ts)):=fun f=>by
  have q:=m b.1;have q1:=WW.2 (show b.1∈(fJ c ts).flatMap ownR from f);have q2:=S b.1;have j:(ownBl (.box b c)).count b.1=1+(c.flatMap ownR).count b.1:=by simp only[ownBl,Y9];omega
  omega
 refine⟨P,Q,U,⟨fun _=>⟨cs,O,⟨by rw[Lv l,l];exact F.1,fun i x y hi o=>?_⟩⟩,⟨fun x f=>?_,fun x f g=>?_,trivial⟩,fun D' x f=>?_,fun x f=>⟨f,(J.own x (A x f)).2⟩⟩,H,⟨R,M,(J.own b.1 (by simp[ownBl])).2⟩,fun N C=>?_⟩
 ·obtain⟨t',u',q1,q2,j⟩:=Eb hi;cases g:t'.isOwn with
  |true=>rw[g,Wz rfl]at j;subst j;exact B i x y q1 g o
  |false=>rw[g,WM XP]at j;subst j;exact F.2 i x y q2 o
 ·rcases n x f with⟨q,_⟩|⟨q,_⟩
  ·exact J.mem.1 x q
  ·exact X.1 x q
 ·rcases n x f with⟨q,_⟩|⟨q,_,q2⟩
  ·exact J.mem.2.1 x q g
  ·rw[q2]at g;cases g
 ·rcases n x f with⟨q,q2⟩|⟨q,q2,_⟩
  ·cases x with
   |v y=>trivial
   |any=>trivial
   |s k d z r=>cases k<;>first|trivial|cases q2
  ·exact HL q2 (G x q) fun b hb=>Q.farX U hb
 ·have:N=cs:=by have hh:a.eval (.tmp t)= .agg cs:=O;rw[hh]at C;cases C;rfl
  subst this;exact B
theorem Inv.homeTake (I:Inv cx D [] a.tmps w){x:Operand}{s:DSl}(e:Am.homeTake D x=some (s,D1)):
  ∃P,Inv cx D1 P a.tmps w∧Out cx D1 (ownBl s)∧AOk w (ownBl s) s (a.eval x)∧(∀b,(ownBl s).count b≤1)∧(de s).isSome=true:=by
 cases x with
 |tmp t =>
  simp only[Am.homeTake]at e;split at e
  ·rename_i b ts hD;split at e
   case isFalse=>cases e
   rename_i q;cases e;obtain⟨P,f,g,l,n⟩:=I.takeSlot hD (.inl ⟨b,ts,rfl⟩) (kE q) (fun _=>I.val t _ hD);exact⟨P,f,g,l,n,rfl⟩
  ·rename_i h off hD;split at e
   case isFalse=>cases e
   rename_i A;subst A;split at e
   case h_2=>cases e
   rename_i b ts hb;split at e
   case isFalse=>cases e
   rename_i q;cases e;obtain⟨b',ts',B,S⟩:=I.val t _ hD;rw[hb]at B;cases B;obtain⟨P,f,g,l,n⟩:=I.takeSlot hb (.inl ⟨b,ts,rfl⟩) (kE q) (y:=a.eval (.tmp t)) (fun _=>S);exact⟨P,f,g,l,n,rfl⟩
  ·rename_i h c st lo len hD;split at e
   case h_2=>cases e
   rename_i d z rows U;split at e
   case isFalse=>cases e
   rename_i hc;obtain⟨rfl,rfl⟩:=hc;rw[WD]at e;obtain⟨D2,H,e⟩:=e;cases e;have J:Am.cellsTake mkD D (.tmp t)=some (false,[.s .own d z rows],D1):=by simp only[Am.cellsTake,hD,U];rw[Wz (Or.inl trivial),H];simp[mkD]
   obtain⟨ys,P,f,g,l⟩:=I.cellsTake J;have K:ys=[a.eval (.tmp t)]:=by simpa[cy]using l
   subst K;have i:∀b,(ownR (.s .own d z rows:DT)).count b≤bc P b:=fun b=>by simpa using g.cnt b
   have V:Out cx D1 (ownBl (.one (.s .own d z rows))):=fun b hb=>by have q1:=WW.2 (show b∈ownR (.s .own d z rows:DT)from hb);have p:=i b;have C:=f.once b;exact⟨(f.bnd b (by omega)).1,by omega⟩
   refine⟨P,f,V,⟨fun _=>g.v.2 0 _ _ rfl rfl,⟨fun u F=>g.holds u F,fun u F G=>g.own u F G,trivial⟩,fun D' u F=>?_,fun b hb=>⟨hb,?_⟩⟩,fun b=>?_,rfl⟩
   ·rw[WG.1 F];trivial
   ·have q1:=WW.2 (show b∈ownR (.s .own d z rows:DT)from hb);have p:=i b;exact(f.bnd b (by omega)).2
   ·have p:=i b;have C:=f.once b;show(ownR (.s .own d z rows:DT)).count b≤1;omega
  ·rename_i u hD;split at e
   case isFalse =>
    split at e
    case h_2=>cases e
    rename_i h c L;split at e
    case h_2=>cases e
    rename_i d z rows hc;rw[WD]at e;obtain⟨D',W,X⟩:=e;cases X;obtain⟨P,Y,Z,n3,n4,n5,n6⟩:=I.nodeTake hc W;obtain⟨d',z',M,g1,g2⟩:=Inv.root L (I.kind _ (WC hD) u (by simp[an])) (I.val t _ hD);rw[hc]at g1;cases g1;have o:ownBl (.one (.s .own d z rows):DSl)=bl (.s .own d z rows):=by simp[ownBl,ownR,T.isOwn]
    refine⟨P,Y,by rw[o];exact Z,⟨fun _=>g2,⟨fun v hv=>?_,fun v hv _=>?_,trivial⟩,fun D' v hv=>?_,fun b hb=>?_⟩,fun b=>by rw[o];exact n3 b,rfl⟩
    ·rw[WG.1 hv];exact n5
    ·rw[WG.1 hv];exact n6
    ·rw[WG.1 hv];trivial
    ·exact⟨hb,n4 b (o ▸ hb)⟩
   rename_i G;cases e;obtain⟨P,f,g,l,n⟩:=I.takeSlot hD (.inr (.inl ⟨u,rfl⟩)) (fun v hv=>by
    simp[rootsO]at hv;subst hv;cases v with
    |v x=>rfl
    |any=>rfl
    |s k d z r=>cases k<;>first|rfl|cases G) (y:=a.eval (.tmp t)) (fun _=>I.val t _ hD)
   exact⟨P,f,g,l,n,by simp[de,G]⟩
  ·rename_i ts hD;split at e
   case isFalse =>
    split at e
    case h_2=>cases e
    rename_i h c j N;obtain⟨u,_,hj,L⟩:=xk N;have m:Am.aggNode D ts h c j=some (s,D1)→∃P,Inv cx D1 P a.tmps w∧Out cx D1 (ownBl s)∧AOk w (ownBl s) s (a.eval (.tmp t))∧(∀b,(ownBl s).count b≤1)∧(de s).isSome=true:=fun e=>by obtain⟨d,z,rows,_,_,_,P,q1,p,C,O,R,_⟩:=I.aggNode hD (by simpa using hj) L e;exact⟨P,q1,p,C,O,R⟩
    split at e
    case h_2=>exact m e
    rename_i b bs hb;split at e
    case isFalse=>exact m e
    rename_i hc;cases e;obtain⟨P,q1,p,C,O,R,_⟩:=I.boxAgg hD hb hc.1 hc.2.1;exact⟨P,q1,p,C,O,by simp only[de];rw[Wz hc.2.2];rfl⟩
   rename_i q;split at e
   case isFalse=>cases e
   rename_i Q;cases e;obtain⟨P,f,g,l,n⟩:=I.takeSlot hD (.inr (.inr ⟨ts,rfl⟩)) (kE q) (y:=a.eval (.tmp t)) (fun _=>I.val t _ hD);exact⟨P,f,g,l,n,by simp only[de];rw[Wz Q];rfl⟩
  ·cases e
 |_=>cases e
theorem Inv.back (I:Inv cx D1 P tm w){X:List Nat}(i:Out cx D1 X)(g:GrewH X w w'){o:Bool×List DT}{v:Value}(R:RetOk w X w' bx [o] rd v){f h:List (DT×Value)}(c:PendOf f o.2)(d:PendOf h (rd.flatMap (·.2))):Inv cx D1 (f++h) tm w'∧∀b,bc (f++h) b=(bG ([o]++rd)).count b:=by
 have a:∀b,bc (f++h) b=(bG ([o]++rd)).count b:=by intro b;rw[jr,c.cnt,d.cnt,nk,W3,sD rd];simp[bG]
 refine⟨I.world i g (fun p hp=>?_) (fun b hb=>?_),a⟩
 ·rcases W5.1 hp with hp|hp
  ·exact R.pend (fun t e=>⟨o,by simp,e⟩) c cx p hp
  ·exact R.pend (fun t e=>by obtain⟨r,k,e⟩:=WP.1 e;exact⟨r,by simp[k],e⟩) d cx p hp
 ·rw[a]at hb ⊢;have l:=R.once b;obtain⟨n1,j⟩:=R.new b (WW.1 hb);rcases n1 with n1|n1
  ·refine⟨by omega,?_,.inl (Xu I.frame.size n1),j⟩;rcases Xt (bF D1 b)with q|q
   ·exact q
   ·have:=(I.bnd b (by omega)).2;omega
  ·exact⟨by omega,(i b n1).2,(i b n1).1,j⟩
theorem Inv.putBack (D:Inv cx D1 P tm w){X:List Nat}(r:Out cx D1 X)(g:GrewH X w w'){o:Bool×List DT}{v:Value}(R:RetOk w X w' bx [o] rd v)(p:t<D1.length){s':DSl}(hv:VS D1 s' (tm.getD t undef))(F:an s'=o.2)(d:rootsO s'=o.2)(q:J9 w' s')(s:(∃b,s' = .box b o.2∧bx=[b.1]∧b.1∈X∧b.1<w.heap.size)∨(∃u,s' = .one u)∨∃ts,s' = .agg ts)(f:∀u∈o.2,∃y,VT u y):∃i,PendOf i (rd.flatMap (·.2))∧Inv cx (bj D1 (some t) s') i tm w':=by
 obtain⟨z,c⟩:=gj f;obtain⟨i,k⟩:=gj R.each;obtain⟨A,hc⟩:=D.back r g R c k;have B:t<tm.size:=by rw[←D.size];exact p
 have a:MemS w' s':=⟨fun u l=>R.holds o (by simp) u (F ▸ l),fun u l H=>R.own o (by simp) u (d ▸ l) H,q⟩
 have j:∀u∈an s',bQ cx D1 u:=fun u l=>yM (R.fine o (by simp) u (F ▸ l))
 refine⟨i,k,?_⟩;rw[←OR (tm:=tm) (t:=t) B];rcases s with⟨b,rfl,C,m,n⟩|⟨u,rfl⟩|⟨ts,rfl⟩
 ·refine Inv.putF (P:=z) (Q:=i) A (fun x=>if x=b.1 then 1 else 0) (fun x q=>?_) p hv a j (fun x=>?_)
  ·split at q
   ·rename_i e;subst e;have G:=R.once b.1;rw[C]at G;simp only[Y9]at G;exact⟨by simp,by rw[hc,(r _ m).2];omega,(r _ m).1,Xf n g.size⟩
   ·cases q
  ·rw[c.cnt];simp only[ownBl,XL];by_cases e:x=b.1
   ·subst e;simp
   ·have:(b.1==x)=false:=by simp;exact fun h=>e h.symm
    simp[this,e]
 ·refine Inv.put (P:=z) (Q:=i) A p hv a j (fun x=>?_);rw[c.cnt, ←d];simp[ownBl,rootsO]
 ·refine Inv.put (P:=z) (Q:=i) A p hv a j (fun x=>?_);rw[c.cnt, ←d];exact Xj _
theorem Inv.nodeBack (I:Inv cx D [] tm w){c:Nat}{rows:List (List DT)}(V:aw D h c=some u)(W:u.isOwn=true)(X:getN u st=some (.s .own d z rows))(F:OwnT w (.s .own d z rows))(g:GrewH (bl (.s .own d z rows)) w w'){o:Bool×List DT}{v:Value}(R:RetOk w (bl (.s .own d z rows)) w' bx [o] rd v){e:Dec}{a:List (List DT)}(H:(.s .own e z a:DT)∈o.2)(k:Value.slice e.addr a.length e.cap = .slice d.addr rows.length d.cap):
  ∃Q n,dL (mA a) (St.dead (dv h c) (nU h c) D) h c st=some Q∧PendOf n (rd.flatMap (·.2))∧Inv cx Q n tm w':=by
 simp only[Value.slice.injEq]at k;obtain⟨v1,v2,v3⟩:=k;have S:=R.holds o (by simp) (.s .own e z a) H;have J:=R.own o (by simp) (.s .own e z a) H rfl;have hd:e=d∨(d.nil=true∧a=[]∧d.sp=none∧d.cap=0):=by
  rw[Dec.addr_sp J.sp,Dec.addr_sp F.sp]at v1;cases j:d.nil with
  |true =>
   right;rw[j]at v1;have B:e.nil=true:=by
    cases q:e.nil with
    |true=>rfl
    |false=>rw[q]at v1;simp at v1
   refine⟨rfl,S.nilrows B,F.sp,?_⟩;cases F with
   |nil _ _ _ _ hc=>exact hc
   |s _ _ _ q=>rw[q]at j;cases j
  |false =>
   left;rw[j]at v1;cases q:e.nil with
   |true=>rw[q]at v1;simp at v1
   |false =>rw[q]at v1;simp only[W2,Xs,Xd,Addr.mk.injEq]at v1;have s1:=J.sp;have s2:=F.sp;cases d;cases e;simp_all
 have K:Holds w' (.s .own d z a):=by
  rcases hd with rfl|⟨q1,rfl,x,G⟩
  ·exact S
  ·exact .e .own d z
 have L:OwnT w' (.s .own d z a):=by
  rcases hd with rfl|⟨q1,rfl,x,G⟩
  ·exact J
  ·exact .nil d z q1 x G
 have C:∀b,(bl (.s .own d z a)).count b≤(bl (.s .own e z a)).count b:=by
  intro b;rcases hd with rfl|⟨q1,rfl,x,G⟩
  ·exact Xj _
  ·rw[cS,q1];simp
 obtain⟨n,A⟩:=gj R.each;have l:∀b,(bl (.s .own e z a)).count b+bc n b≤(bG ([o]++rd)).count b:=by
  intro b;rw[nk,W3,A.cnt,sD rd];refine Nat.add_le_add ?_ (Xj _);obtain⟨i,hi⟩:=WL H;have q:=bY ownR (.any:DT) b o.2 i _ hi;have M:(ownR (.any:DT)).count b=0:=rfl;have x:ownR (.s .own e z a:DT)=bl (.s .own e z a):=by simp[ownR,T.isOwn]
  rw[x]at q;have G:(bG [o]).count b=(o.2.flatMap ownR).count b:=by simp[bG]
  omega
 have N:NodeOk w w' (.s .own d z rows) (.s .own d z a):=⟨K,L,fun y Y=>by show y=_;rw[show y=_ from Y,v2],fun b hb O=>g.same b hb O⟩
 obtain⟨D',Z,U⟩:=I.updNode (P':=n) V W X (f:=mA a) rfl N (fun _=>rfl) (p:=dv h c) (q:=nU h c) (by simp[dv]) (.inr (.inl ⟨by simp[nU],fun d2 z2 m ⟨U,r2,q1,M⟩=>by
   simp only[getN,Xd,T.s.injEq]at q1;obtain⟨rfl,rfl,rfl,rfl⟩:=q1;exact⟨.own,a,rfl,by omega⟩⟩)) (fun b=>by
   have q1:=R.once b;have x:=l b;have M:=C b;split
   ·rename_i Z0;rcases Xt ((bl (.s .own e z a)).count b+bc n b)with q|q
    ·omega
    ·have:=R.new b (WW.1 (by omega));rcases this.1 with q'|q'
     ·omega
     ·have:=WW.2 q';omega
   ·omega) (fun b hb hp=>by
   have M:=C b;have x:=l b;exact(R.new b (WW.1 (by omega))).2) g.size g.os g.tape g.output (R.pend (fun t P=>by
   obtain⟨r,hr,P⟩:=WP.1 P;exact⟨r,by simp[hr],P⟩) A cx)
 exact⟨D',n,Z,A,U⟩
theorem Ic {rows:List (List DT)}:ownBl (.one (.s .own d z rows):DSl)=bl (.s .own d z rows):=by simp[ownBl,ownR,T.isOwn]
theorem Inv.nodePut {j:DSt}(I:Inv cx D [] tm w){c:Nat}{rows:List (List DT)}(k:aw D h c=some (.s .own d z rows))(l:OwnT w (.s .own d z rows))(g:GrewH (bl (.s .own d z rows)) w w'){o:Bool×List DT}{v:Value}(R:RetOk w (bl (.s .own d z rows)) w' bx [o] rd v)(m:u∈o.2)(hv:VT u (.slice d.addr rows.length d.cap))(e:Am.nodePut D h c u=some j):∃a,PendOf a (rd.flatMap (·.2))∧Inv cx j a tm w':=by
 unfold Am.nodePut at e;rw[k]at e;split at e
 case h_2=>cases e
 rename_i r s z0 b t x f i;cases i;split at e
 case isFalse=>cases e
 rename_i hz;subst hz;obtain⟨y,a,n,p,q⟩:=I.nodeBack (st:=[]) k rfl rfl l g R m hv.symm;rw[n]at e;cases e;exact⟨a,p,q⟩
theorem Inv.boxBack {cx:Cx}{D D1:DSt}{P:List (DT×Value)}{tm:Array Value}{w w':World}(I:Inv cx D [] tm w){h:Nat}{b:Nat×Nat}{m:List DT}(hb:D[h]?=some (.box b m))(Y:m.all T.noLent=true)(Z:Inv cx (bm h D) P tm w){X bx:List Nat}
  (hX:Out cx (bm h D) X) (Z0:Out cx (bm h D) (ownBl (.box b m))) (L:b.1∉X) (C:b.1<w.heap.size) (g:GrewH X w w') {o:Bool×List DT} {rd:eo} {v:Value} (R:RetOk w X w' bx [o] rd v)
  {cs:Array Value} (ho:VCells o.2 cs.toList) (M:∀(i:Nat)(x:DT)(y:Value),m[i]?=some x→x.isOwn=true→cs.toList[i]?=some y→VT x y):
  ∃N,PendOf N (rd.flatMap (·.2))∧Inv cx (bj (bm h D) (some h) (.box b (kO m o.2))) N tm w':=by
 obtain⟨Po,O⟩:=gj ho.each;obtain⟨N,S⟩:=gj R.each;obtain⟨I2,hc⟩:=Z.back hX g R O S;have F:=WC hb;have hm:=I.mem _ F;have G:=I.kind _ F;have ht:h<(bm h D).length:=by rw[qx];exact ff hb
 have Z1:h<tm.size:=by rw[←Z.size];exact ht
 have same:w'.heap[b.1]?=w.heap[b.1]?:=g.same b.1 C L;have n:∀x∈kO m o.2,(x∈o.2)∨(x∈m∧x.isOwn=false):=by
  intro x H;obtain⟨i,hi⟩:=WL H;obtain⟨t',u',q1,q2,B⟩:=Ec hi;cases l:t'.isOwn with
  |true=>rw[l,Wz rfl]at B;subst B;exact .inl (WC q2)
  |false=>rw[l,WM XP]at B;subst B;exact .inr ⟨WC q1,l⟩
 have p:∀x∈m,x.isOwn=false→∀y∈bl x,(Cx.mk w X).far y:=by
  intro x H Z2 y K;rcases EX (kE Y x H)with q|q|⟨d,z,r,rfl⟩
  ·rw[Z2]at q;cases q
  ·rw[q]at K;cases K
  ·exact Z.farX hX (G _ H y K)
 obtain⟨c,e,f,l1,l2⟩:=hm.2.2.1;refine⟨N,S,?_⟩;rw[←OR (tm:=tm) (t:=h) Z1];refine Inv.putF (P:=Po) (Q:=N) I2 (fun x=>if x=b.1 then 1 else 0) (fun x H=>?_) ht (I.val h _ hb) ⟨fun u U=>?_,fun u U J=>?_,⟨⟨c,e,f,by rw[same];exact l1,fun j u hj=>?_⟩,fun c' e' lo Z3 V y h1 h2=>?_⟩⟩ (fun u U=>?_) (fun x=>?_)
 ·split at H
  ·rename_i A;subst A;have q0:=Z0 b.1 (by simp[ownBl]);refine⟨by simp,?_,q0.1,Xf C g.size⟩;rw[hc,q0.2];rcases Xt ((bG ([o]++rd)).count b.1)with q|q
   ·omega
   ·have:=(R.new b.1 (WW.1 q)).1;rcases this with q'|q'
    ·omega
    ·exact absurd q' L
  ·cases H
 ·rcases n u U with q|⟨q,q2⟩
  ·exact R.holds o (by simp) u q
  ·exact(hm.1 u q).frame fun y K _=>g.same y (p u q q2 y K).1 (p u q q2 y K).2
 ·rcases n u U with q|⟨q,q2⟩
  ·exact R.own o (by simp) u q J
  ·rw[q2]at J;cases J
 ·obtain⟨t',u',q1,q2,B⟩:=Ec hj;obtain⟨y,y1,y2⟩:=l2 j t' q1;refine⟨y,y1,?_⟩;cases l:t'.isOwn with
  |false=>rw[l,WM XP]at B;subst B;exact y2
  |true =>
   rw[l,Wz rfl]at B;subst B;have Z4:j<cs.toList.length:=by rw[←ho.1];exact ff q2
   have W:=WE Z4;have v1:=M j t' _ q1 l W;have v2:=ho.2 j _ _ q2 W;cases t' with
   |v x=>cases l
   |any=>cases l
   |s k d z r =>have e1:cs.toList[j]= .slice d.addr r.length d.cap:=v1;have e2:y = .slice d.addr r.length d.cap:=y2;rw[e2, ←e1];exact v2
 ·rw[same]at V;have Z5:(kO m o.2).length≤m.length:=by
   have:∀(a b:List DT),(kO a b).length≤a.length:=by
    intro a;induction a with
    |nil=>intro b;cases b<;>simp[kO]
    |cons x a ih=>intro b;cases b with
     |nil=>simp[kO]
     |cons y b=>simp only[kO,W4];have:=ih b;omega
   exact this m o.2
  exact hm.2.2.2 c' e' lo Z3 V y h1 (by omega)
 ·rcases n u U with q|⟨q,q2⟩
  ·exact yM (R.fine o (by simp) u q)
  ·rcases EX (kE Y u q)with q'|q'|⟨d,z,r,rfl⟩
   ·rw[q2]at q';cases q'
   ·cases u with
    |v x=>trivial
    |any=>trivial
    |s k d z r=>cases k<;>first|(cases q2;done)|exact G _ q|(have:=kE Y _ q;cases this)
   ·exact G _ q
 ·have q:=Lx (ts:=m) (us:=o.2) x;rw[O.cnt];simp only[ownBl,XL];by_cases A:x=b.1
  ·subst A;simp;omega
  ·have:(b.1==x)=false:=by simp;exact fun h=>A h.symm
   simp[this,A];omega
theorem Inv.homePut0 (I:Inv cx D [] a.tmps w){x:Operand}{s:DSl}{D2:DSt}(e:Am.homeTake D x=some (s,D1))(g:GrewH (ownBl s) w w'){o:Bool×List DT}{v:Value}(R:RetOk w (ownBl s) w' (c7 s) [o] rd v)(B:Es w' s (a.eval x) o)(i:Am.homePut0 D D1 x o=some D2):∃G,PendOf G (rd.flatMap (·.2))∧Inv cx D2 G a.tmps w':=by
 obtain⟨P,h1,h2,h3,h4,h5⟩:=I.homeTake e;have m:∀{b:Nat×Nat}{us:List DT},Lies w' b us→∀u∈us,∃y,VT u y:=by rintro b us ⟨c,e,f,q1,H⟩ u hu;obtain⟨j,S⟩:=WL hu;obtain⟨y,_,hy⟩:=H j u S;exact⟨y,hy⟩
 cases x with
 |tmp t =>
  simp only[Am.homeTake]at e;split at e
  ·rename_i b ts hD;split at e
   case isFalse=>cases e
   cases e;simp only[Am.homePut0,hD]at i;cases i;obtain⟨k,n,o3⟩:=B;have hb:=(h3.own b.1 (by simp[ownBl])).2;exact h1.putBack h2 g R (by rw[qx];exact ff hD) (s' := .box b o.2) (I.val t _ hD) rfl rfl ⟨n,o3⟩ (.inl ⟨b,rfl,rfl,by simp[ownBl],hb⟩) (m n)
  ·rename_i h off hD;split at e
   case isFalse=>cases e
   split at e
   case h_2=>cases e
   rename_i b ts hb;split at e
   case isFalse=>cases e
   cases e;simp only[Am.homePut0,hD,hb]at i;cases i;obtain⟨k,n,o3⟩:=B;have Z0:=(h3.own b.1 (by simp[ownBl])).2;exact h1.putBack h2 g R (by rw[qx];exact ff hb) (s' := .box b o.2) (I.val h _ hb) rfl rfl ⟨n,o3⟩ (.inl ⟨b,rfl,rfl,by simp[ownBl],Z0⟩) (m n)
  ·rename_i h c st lo len hD;split at e
   case h_2=>cases e
   rename_i d z rows hn;split at e
   case isFalse=>cases e
   rename_i hc;obtain⟨rfl,rfl⟩:=hc;rw[WD]at e;obtain⟨D3,Z4,e⟩:=e;cases e;simp only[Am.homePut0,hD,hn]at i;split at i
   case h_2=>cases i
   rename_i k0 d0 z0 J d' z' K Z1 l;cases Z1;split at i
   case isFalse=>cases i
   rename_i hz;subst hz;obtain⟨u,n1,n2,n3,n4,n5,n6⟩:=I.alNode hD hn;obtain⟨k,n⟩:=B;unfold VPart at k;rw[n,l]at k;simp only[W2,Xs]at k;obtain⟨t',q,r⟩:=k;cases q;have U:Value.slice d'.addr K.length d'.cap = .slice d.addr rows.length d.cap:=by have q1:a.eval (.tmp t)=_:=r;have H:a.tmps.getD t undef=_:=n6;exact q1.symm.trans H
   rw[Ic]at g R;obtain⟨D4,G,k1,k2,k3⟩:=I.nodeBack n1 n2 n3 n5 g R (by rw[l];simp) U;rw[k1]at i;cases i;exact⟨G,k2,k3⟩
  ·rename_i u hD;split at e
   case isFalse L =>
    split at e
    case h_2=>cases e
    rename_i h c hr;split at e
    case h_2=>cases e
    rename_i d z rows hc;rw[WD]at e;obtain⟨D',e1,e3⟩:=e;cases e3;obtain⟨P',q1,H,q3,q4,q5,V⟩:=I.nodeTake hc e1;obtain⟨d0,z0,J,g1,g2⟩:=Inv.root hr (I.kind _ (WC hD) u (by simp[an])) (I.val t _ hD);rw[hc]at g1;cases g1;simp only[Am.homePut0,hD]at i;split at i
    case h_2=>cases i
    rename_i d1 z1 M l;rw[WM L,hr]at i;obtain⟨k,n⟩:=B;unfold VPart at k;rw[n,l]at k;simp only[W2,Xs]at k;obtain⟨t',q,r⟩:=k;cases q;rw[Ic]at g R;have N:VT (.s .own d1 z1 M:DT) (.slice d.addr rows.length d.cap):=by have:a.eval (.tmp t)= .slice d.addr rows.length d.cap:=g2;rw[←this];exact r
    exact I.nodePut hc V g R (by rw[l];simp) N i
   rename_i W;cases e;simp only[Am.homePut0,hD]at i;split at i
   case h_2=>cases i
   rename_i d z rows l;rw[Wz W]at i;cases i;obtain⟨k,n⟩:=B;have p:=k.each;unfold VPart at k;rw[n,l]at k;simp only[W2,Xs]at k;obtain⟨t',q,r⟩:=k;cases q;exact h1.putBack h2 g R (by rw[qx];exact ff hD) (s' := .one (.s .own d z rows)) r l.symm l.symm trivial (.inr (.inl ⟨_,rfl⟩)) p
  ·rename_i ts hD;split at e
   case isFalse L =>
    split at e
    case h_2=>cases e
    rename_i h c j X;obtain⟨u,_,S,hr⟩:=xk X;rw[Nat.sub_zero]at S;simp only[Am.homePut0,hD]at i;rw[WM L,X]at i;simp only at i;have C:Am.aggNode D ts h c j=some (s,D1)→(o.2[j]?).bind (Am.nodePut D h c)=some D2→∃G,PendOf G (rd.flatMap (·.2))∧Inv cx D2 G a.tmps w':=fun e i=>by
     obtain⟨d,z,rows,g1,g2,g3,P',q1,H,q3,q4,q5,V⟩:=I.aggNode hD S hr e;subst g2;rw[g3]at g R;obtain⟨k,n⟩:=B;unfold VPart at k;rw[n]at k;simp only[W8]at k;obtain⟨cs,O,A⟩:=k;rw[WA]at i;obtain⟨v',hv1,N⟩:=i;have Y:j<cs.toList.length:=by rw[←A.1];exact ff hv1
     obtain⟨Q,F,Z⟩:=q3.val D;have Z2:Q=cs:=by rw[O]at F;cases F;rfl
     subst Z2;have k1:=A.2 j v' _ hv1 (WE Y);have k2:VT (.s .own d z rows:DT) Q.toList[j]:=Z.2 j _ _ (by rw[WN (ff S)]) (WE Y);have k3:Q.toList[j]= .slice d.addr rows.length d.cap:=k2;rw[k3]at k1;exact I.nodePut g1 V g R (WC hv1) k1 N
    split at e
    case h_2 Z3 =>
     split at i
     ·rename_i b bs hb;exact absurd hb (Z3 b bs)
     ·exact C e i
    rename_i b bs hb;rw[hb]at i;simp only at i;split at e
    case isFalse hc =>rw[WM hc]at i;exact C e i
    rename_i hc;rw[Wz hc]at i;cases e;cases i;obtain⟨P',q1,H,q3,q4,⟨q5,V,q7⟩,q8⟩:=I.boxAgg hD hb hc.1 hc.2.1;obtain⟨k,n⟩:=B;unfold VPart at k;rw[n]at k;simp only[W8]at k;obtain⟨cs,O,A⟩:=k;exact I.boxBack (D1:=bm h D) hb hc.2.1 q1 H q5 V q7 g R A (q8 cs O)
   rename_i hl;split at e
   case isFalse=>cases e
   cases e;simp only[Am.homePut0,hD]at i;rw[Wz hl]at i;cases i;obtain⟨k,n⟩:=B;have p:=k.each;unfold VPart at k;rw[n]at k;exact h1.putBack h2 g R (by rw[qx];exact ff hD) (s' := .agg o.2) k rfl rfl trivial (.inr (.inr ⟨_,rfl⟩)) p
  ·cases e
 |_=>cases e
section
variable  {δ β : Type}
def EZ (o:Bool×List (T δ)):Bool:=match o with|(false,[.any])=>true|_=>false
def homePut (D D1:St δ β)(x:Operand)(o:Bool×List (T δ)):Option (St δ β):=if EZ o=true then some D1 else homePut0 D D1 x o
end
theorem SZ (o:Bool×List DT):EZ (o.1,erL o.2)=EZ o:=by
 obtain⟨g,ts⟩:=o;cases g with
 |true=>rfl
 |false =>
  match ts with
  |[]=>rfl
  |[t]=>cases t<;>first|rfl|(simp only[erL,WT,Xc,aH];rfl)
  |t::u::ts=>cases t<;>first|rfl|(simp only[erL,WT,aH];rfl)
theorem Pm (D D1:DSt)(x:Operand)(o:Bool×List DT):homePut (erD D) (erD D1) x (o.1,erL o.2)=(homePut D D1 x o).map erD:=by unfold homePut;rw[SZ,MZ];split<;>rfl
theorem Inv.dropL {Q:List (DT×Value)}(I:Inv cx D (P++Q) tm w):Inv cx D Q tm w where
 size:=I.size
 val:=I.val
 mem:=I.mem
 kind:=I.kind
 pend:=fun p a=>I.pend p (by simp[a])
 once:=fun b=>by have:=I.once b;rw[jr]at this;omega
 bnd:=fun b hb=>I.bnd b (by rw[jr];omega)
 frame:=I.frame
theorem Inv.homePut (I:Inv cx D [] a.tmps w){x:Operand}{s:DSl}{j:DSt}(e:Am.homeTake D x=some (s,D1))(g:GrewH (ownBl s) w w'){o:Bool×List DT}{v:Value}(R:RetOk w (ownBl s) w' (c7 s) [o] rd v)(l:Es w' s (a.eval x) o)(d:Am.homePut D D1 x o=some j):∃f,PendOf f (rd.flatMap (·.2))∧Inv cx j f a.tmps w':=by
 unfold Am.homePut at d;split at d
 ·rename_i h;cases d;obtain⟨P,m,n,p,q,r⟩:=I.homeTake e;have b:∀u∈o.2,∃y,VT u y:=by
   unfold EZ at h;split at h
   ·intro u k;rw[WG]at k;subst k;exact⟨.bool true,rfl⟩
   ·cases h
  obtain⟨t,i⟩:=gj b;obtain⟨f,c⟩:=gj R.each;exact⟨f,c,(m.back n g R i c).1.dropL⟩
 ·exact I.homePut0 e g R l d
abbrev US:=St Unit Unit
variable{U:US}
def jk (P : Program)(fns : FuncId → Option Func) : Prop := ∀ f fn, fns f = some fn → P.funcs[f]? = some fn ∧ (fn.name == "runtime.NumGoroutine") = false ∧ fn.body.isNone = false
def callTo (D:US)(o:Oper):Option (FuncId×List Operand×List (Unit×List (T Unit))):=
 match o.op with
 | .call c=>match c.callee with| .value x=>(match opd mkU.nil D x with|some (.fni f caps)=>some (f,c.args.toList,caps)|_=>none)|_=>none
 |_=>none
theorem Inv.callTo (I:Inv cx D [] a.tmps w){o:Oper}{caps:List (Unit×List (T Unit))}(h:callTo (erD D) o=some (f,xs,caps)):
  ∃c x d,o.op = .call c∧c.callee = .value x∧xs=c.args.toList∧caps=d.map (fun p=>((),erL p.2))∧AOk w [] (.fni f d) (a.eval x) ∧
   a.eval x = .func (.func f) #[] (d.map fun b=>Value.pointer (some ⟨b.1.1,b.1.2,none⟩)).toArray:=by
 unfold Am.callTo at h;split at h
 case h_2=>cases h
 rename_i c j;split at h
 case h_2=>cases h
 rename_i x e;split at h
 case h_2=>cases h
 rename_i f' l n;cases h;rw[cN,WD]at n;obtain⟨s,q,g⟩:=n;have hv:=(I.opd q).val;cases s with
 |fni i d =>
  simp only[Sl.er,Sl.fni.injEq]at g;obtain⟨rfl,rfl⟩:=g;refine⟨c,x,d,j,e,rfl,rfl,?_,hv⟩;have:Am.argOf mkD D x=some (Sl.fni i d):=by have m:Am.opd mkD.nil D x=some (Sl.fni i d):=q;simp only[Am.argOf,m]
  exact(I.argOf (Out.nil cx D) this).1
 |one u=>cases g
 |im k b ts off=>cases g
 |_=>cases g
theorem ArgsOk.ims {X:List Nat}{c:List Value}(h:ArgsOk w X ad c)(g:AOk w X (.fni f caps) y):
  ArgsOk w X (ad++Am.ims caps) (c++caps.map fun b=>Value.pointer (some ⟨b.1.1,b.1.2,none⟩)):=by
 obtain⟨d,e,j⟩:=h;refine⟨by simp[d,Am.ims],fun i a v hi hv=>?_,fun b=>by rw[XR,RG,WX];exact j b⟩;rcases WI i ad.length with q|q
 ·rw[Xr q]at hi;rw[Xr (by omega)]at hv;exact e i a v hi hv
 ·rw[Xp q]at hi;rw[Xp (by omega), ←d]at hv;exact g.ims _ a v hi hv
theorem K5 :∀a∈Am.ims caps,a.isHome=false:=by intro a b;obtain⟨p,_,rfl⟩:=WU.1 b;rfl
def addrSl (D:US)(dst:Option Nat)(offs:List Nat)(xs:List Operand)(caps:List (Unit×List (T Unit))):Option US :=
 match xs,caps with
 |[x],[]=>(mn D x).bind fun h=>e8 D dst (.clo (.arr offs) (offs.map fun _=>h))
 |_,_=>none
theorem S5 (D:DSt)(dst:Option Nat)(s:DSl):e8 (erD D) dst s.er=(e8 D dst s).map erD:=p8 D dst s
theorem Is {α β:Type}(x:α):∀(l:List β),((l.map fun _=>x).zip l)=l.map fun o=>(x,o)
 |[]=>rfl
 |o::l=>by simp[Is x l]
theorem Inv.addrSl {P:Program}{tab:Tab}(ok:bz P tab)(I:Inv cx D [] a.tmps w){offs:List Nat}(hf:tab.addr.lookup f=some offs){dst:Option Nat}(e:addrSl (erD D) dst offs xs []=some U):Calls P f (xs.map a.eval).toArray w fun e w'=>∃v,e = .returned v∧∃D',erD D'=U∧Inv cx D' [] (a.put dst v).tmps w':=by
 unfold Am.addrSl at e;split at e
 case h_2=>cases e
 rename_i x _;rw[y4,WA]at e;obtain⟨h,c,n⟩:=e;have j:∃(b:Nat×Nat) (ts:List DT),D[h]?=some (.box b ts)∧a.eval x = .pointer (some ⟨b.1,b.2,none⟩):=by
  unfold mn at c;split at c
  ·rename_i t;split at c
   ·rename_i b ts hb;cases c;exact⟨b,ts,hb,I.val _ _ hb⟩
   ·rename_i q hb;cases c;obtain⟨b,ts,r,s⟩:=I.val _ _ hb;exact⟨b,ts,r,s⟩
   ·cases c
  ·cases c
 obtain⟨b,ts,y,z⟩:=j;have A:=ok.addr _ (kg hf) b w;simp only[WT,Xc,z];refine A.mono ?_;rintro e w' ⟨rfl,g⟩;refine⟨_,rfl,?_⟩;have m:Inv cx D [] a.tmps w':=I.world (P':=[]) (Out.nil cx D) (g.x []) (fun p B=>by cases B) (fun b hb=>by rw[cX]at hb;cases hb);have C:Tells cx D w' (.clo (.arr offs) (offs.map fun _=>h)) (.agg (offs.map fun o=>Value.pointer (some ⟨b.1,b.2+o,none⟩)).toArray):=by
  refine⟨⟨offs.map fun _=>b,by simp,fun i q F hi hb=>?_,?_⟩,⟨fun u k=>by simp[an]at k,fun u k=>by simp[rootsO]at k,trivial⟩,fun u k=>by simp[an]at k,rfl⟩
  ·rw[WQ,WD]at hi hb;obtain⟨_,_,rfl⟩:=hi;obtain⟨_,_,rfl⟩:=hb;exact⟨ts,y⟩
  ·simp only[Kn,Is,Xk];rfl
 have l:e8 (erD D) dst (Sl.er (.clo (.arr offs) (offs.map fun _=>h)))=some U:=n;rw[S5,WD]at l;obtain⟨D',d,rfl⟩:=l;refine⟨D',rfl,?_⟩;unfold e8 at d;split at d
 ·cases d;exact m
 ·split at d
  ·cases d;exact m.putA ‹_› C
  ·cases d
def stepU (tab:Tab)(fns:FuncId→Option Func)(C:Sem1)(D:US)(o:Oper)(tk:Bool):Option US :=
 match callTo D o with
 |some (f,xs,caps)=>
  if(fns f).isSome then
   match tab.addr.lookup f with
   |some offs=>addrSl D o.dst offs xs caps
   |none =>
   match tab.io.lookup f with
   |none=>(argsW mkU tab f D xs).bind fun as=>(C f (as++ims caps)).bind fun rs=>putRet mkU D o.dst rs
   |some i =>
    match caps,xs[i]? with
    |[],some x=>(homeTake D x).bind fun r=>(argsIo mkU r.2 r.1 i xs).bind fun as=>(C f as).bind fun rs=>match rs with|q::rs=>(homePut D r.2 x q).bind fun a=>putRet mkU a o.dst rs|[]=>none
    |_,_=>none
  else none
 |none=>dB mkU frU tab D o tk
theorem Ik {P:Program}{o:Oper}{c:Call}{x:Operand}{fn:Func}{d:List Value}(e:o.op = .call c)(b:c.callee = .value x)(g:a.eval x = .func (.func f) #[] d.toArray)(l : P.funcs[f]? = some fn)(m : (fn.name == "runtime.NumGoroutine") = false)(k : fn.body.isNone = false) : (execOp a.eval o).run P w = .ok (.enter f (c.args.toList.map a.eval ++ d).toArray) w := by
 have n:(c.args.toList.map a.eval++d).toArray=c.args.map a.eval++d.toArray:=by rw[←X7];simp
 rw[n];simp only[execOp,e,resolve,b,g];have i : ¬ fn.name = "runtime.NumGoroutine" := by simpa using m
 have j:¬fn.body=none:=by intro h;rw[h]at k;cases k
 simp[Deferred.ofValue,invoke,callFunc,l,i,j]
theorem Gg :erR ([]++rd)=erR rd:=rfl
theorem Inv.stepU {P:Program}{tab:Tab}(ok:bz P tab){fns:FuncId→Option Func}(hf:jk P fns){C:Sem1}(A:ie P B C cx)(I:Inv cx D [] a.tmps w){o:Oper}{tk:Bool}(e:stepU tab fns C (erD D) o tk=some U){K:Act→World→Prop}(t:∀D' F w',erD D'=U→(∃y,F=a.put o.dst y)→Inv cx D' [] F.tmps w'→K F w'):o.wp P a w K Q:=by
 unfold Am.stepU at e;split at e
 ·rename_i f xs caps hc;split at e
  case isFalse=>cases e
  rename_i G;obtain⟨fn,H⟩:=Yl.1 G;obtain⟨p1,p2,p3⟩:=hf f fn H;obtain⟨c,x,b,J,u,rfl,rfl,L,M⟩:=I.callTo hc;have N:=Ik (w:=w) J u M p1 p2 p3;unfold Oper.wp;rw[N];split at e
  ·rename_i offs p;have d:b=[]:=by
    unfold Am.addrSl at e;split at e
    ·rename_i O;simpa using O
    ·cases e
   subst d;have k:=I.addrSl ok p e;simp only[Xc,WX];refine k.mono ?_;rintro e0 w' ⟨v,rfl,D',l,r⟩;exact t D' _ _ l ⟨_,rfl⟩ r
  split at e
  ·rw[WA]at e;obtain⟨as,k,e⟩:=e;rw[WA]at e;obtain⟨rs,l,r⟩:=e;rw[Kt]at k;obtain⟨ad,m,rfl⟩:=WD.1 k;obtain⟨S,hN⟩:=I.argsW (Out.nil cx D) m;have V:=S.ims L;have W:∀s∈ad++ims b,s.isHome=false:=fun s hs=>(W5.1 hs).elim (hN s) (K5 s)
   have j:=A.1 f _ rs l w [] (ad++ims b) _ (A.2.at I (Out.nil cx D)) (by rw[XB,Rh]) V;refine j.mono ?_;rintro e w' ⟨v,od,rd,rfl,g,X,Y,R⟩;have:=OutsOk.none W Y;subst this;subst X;rw[Gg,H0]at r;obtain⟨D',Z,rfl⟩:=WD.1 r;exact t D' _ _ rfl ⟨_,rfl⟩ (I.putRet g.grew R Z)
  ·rename_i i Z5;split at e
   case h_2=>cases e
   rename_i x0 d Z0;have Z1:b=[]:=by simpa using d
   subst Z1;rw[WA]at e;obtain⟨⟨s,D1⟩,k,e⟩:=e;rw[M0]at k;obtain⟨⟨sd,Z6⟩,m,Z2⟩:=WD.1 k;cases Z2;rw[WA]at e;obtain⟨as,l,e⟩:=e;rw[WA]at e;obtain⟨rs,r,e⟩:=e;simp only at l;rw[HY]at l;obtain⟨ad,Z3,rfl⟩:=WD.1 l;obtain⟨Pd,k1,k2,k3,k4,k5⟩:=I.homeTake m;obtain⟨S,hB,n⟩:=k1.argsIo k2 k3 k4 Z0 Z3;have j:=A.1 f _ rs r w (ownBl sd) ad _ (A.2.at k1 k2) rfl S;simp only[Xc,WX];refine j.mono ?_;rintro e0 w' ⟨v,od,rd,rfl,g,X,Y,R⟩;obtain⟨q,rfl,hq⟩:=OutsOk.one k5 n Y;subst X;rw[OneHome.box n]at R;simp only[XF,erR,WT]at e;rw[WA]at e;obtain⟨U2,e1,e2⟩:=e;rw[Pm]at e1;obtain⟨D2,Z4,rfl⟩:=WD.1 e1;obtain⟨Pr,n1,n2⟩:=I.homePut m g R hq Z4;have z:Am.putRet mkU (erD D2) o.dst (erR rd)=some U:=e2;rw[H0]at z;obtain⟨D',e3,rfl⟩:=WD.1 z;exact t D' _ _ rfl ⟨_,rfl⟩ (n2.putRetP R n1 e3)
 ·rw[S6 w]at e;obtain⟨D',e',rfl⟩:=WD.1 e;obtain⟨nx,w',k,l⟩:=FU ok I e';unfold Oper.wp;rw[k];cases l with
  |value y h=>exact t D' _ _ rfl ⟨_,rfl⟩ h
  |skip hd h =>show K (a.put o.dst undef) w';refine t D' _ _ rfl ⟨_,rfl⟩ ?_;rw[hd];exact h
def yieldAt {δ β:Type}(D:St δ β)(t:Nat):Option (Option Bool):=
 match D[t]? with
 |some (.one (.v (.bool b)))=>some (some b)
 |some (.tup [])=>some none
 |_=>none
theorem y5 (D:DSt)(t:Nat):yieldAt (erD D) t=yieldAt D t:=by
 unfold yieldAt;rw[cl];cases D[t]? with
 |none=>rfl
 |some s =>
  cases s with
  |one u =>
   cases u with
   |s k d z r=>simp[Sl.er,aH]
   |v x=>cases x<;>rfl
   |any=>rfl
  |tup rs=>cases rs<;>rfl
  |_=>rfl
theorem Inv.yieldAt (I:Inv cx D P tm w){y:Option Bool}(e:yieldAt D t=some y):
  (match tm[t]? with|some (.bool b)=>some b|_=>none)=y:=by
 unfold Am.yieldAt at e;have a:∀s,D[t]?=some s→VS D s (tm.getD t undef)∧tm[t]?=some (tm.getD t undef):=by
  intro s h;have c:t<tm.size:=by
   rw[←I.size];rcases WI t D.length with g|g
   ·exact g
   ·rw[WF g]at h;cases h
  refine⟨I.val t _ h,?_⟩;rw[Xo,Xg c];rfl
 split at e
 ·rename_i i h;cases e;obtain⟨d,f⟩:=a _ h;rw[f,show tm.getD t undef = .bool i from d.1]
 ·rename_i h;cases e;obtain⟨⟨j,d,_⟩,f⟩:=a _ h;rw[f,d]
 ·cases e
theorem Inv.putUndef (I:Inv cx D [] a.tmps w)(c:t<D.length):Inv cx (Am.putA D t (.tup [])) [] (a.put (some t) undef).tmps w :=
 I.putA c ⟨⟨#[],rfl,rfl,fun i r v h=>by simp at h⟩,⟨fun u b=>by simp[an]at b,fun u b=>by simp[rootsO]at b,trivial⟩,fun u b=>by simp[an]at b,rfl⟩
def runOps (tab:Tab)(fns:FuncId→Option Func)(C:Sem1)(tk:Nat→Bool)(ops:Array Oper):List Oper→Nat→US→Option US
 |[],_,D=>some D
 |o::r,i,D =>
  match o.guard with
  |none=>(stepU tab fns C D o (tk i)).bind (runOps tab fns C tk ops r (i+1))
  |some (j,a)=>
   match((ops[j]?).bind (·.dst)).bind (yieldAt D)with
   |some b=>if b=some a then(stepU tab fns C D o (tk i)).bind (runOps tab fns C tk ops r (i+1))else
    (match o.dst with|none=>some D|some t=>if t<D.length then some (putA D t (.tup []))else none).bind (runOps tab fns C tk ops r (i+1))
   |none=>none
theorem Inv.runOps2 {P:Program}{tab:Tab}(ok:bz P tab){fns:FuncId→Option Func}(hf:jk P fns){B:Base}{C:Sem1}{cx:Cx}(m:ie P B C cx){tk:Nat→Bool}{ops:Array Oper}{Q:Exit→Act→World→Prop}{U:US}
  {T:Act→Prop} {l2:List Oper} (n:∀D' p w',erD D'=U→T p→Inv cx D' [] p.tmps w'→wpList P ops Q l2 p w'):∀(l:List Oper)(i:Nat){D:DSt}{a:Act}{w:World},(∀o∈l,∀a y,T a→T (a.put o.dst y))→Inv cx D [] a.tmps w→T a →
   runOps tab fns C tk ops l i (erD D)=some U→wpList P ops Q (l++l2) a w
 |[],i,D,a,w,_,I,hd,e=>by cases e;exact n D a w rfl hd I
 |o::l,i,D,a,w,u,I,hd,e=>by
  have f:∀o∈l,∀a y,T a→T (a.put o.dst y):=fun F h=>u F (by simp[h])
  have x:Region.wanted o (yielded ops a.tmps)=true→(Am.stepU tab fns C (erD D) o (tk i)).bind (Am.runOps tab fns C tk ops l (i+1))=some U→wpList P ops Q (o::(l++l2)) a w:=by intro G e;rw[WA]at e;obtain⟨H,d,q⟩:=e;unfold wpList;rw[Wz G];refine .inl (I.stepU ok hf m d fun D' p w' v r J=>?_);subst v;obtain⟨y,rfl⟩:=r;exact Inv.runOps2 ok hf m n l (i+1) f J (u o (by simp) a y hd) q
  show wpList P ops Q (o::(l++l2)) a w;unfold Am.runOps at e;split at e
  ·rename_i s;exact x (by simp[Region.wanted,s]) e
  ·rename_i j z s;split at e
   case h_2=>cases e
   rename_i b hb;have A:yielded ops a.tmps j=b:=by rw[WA]at hb;obtain⟨t,v,r⟩:=hb;rw[y5]at r;have:=I.yieldAt r;unfold yielded;rw[v];exact this
   split at e
   ·rename_i g;exact x (by simp[Region.wanted,s,A,g]) e
   ·rename_i g;unfold wpList;rw[WM (by simp[Region.wanted,s,A,g])];rw[WA]at e;obtain⟨H,d,q⟩:=e;split at d
    ·rename_i c;cases d;rw[c];exact Inv.runOps2 ok hf m n l (i+1) f I hd q
    ·rename_i t c;rw[fO]at d;split at d
     case isFalse=>cases d
     rename_i K;cases d;have:=I.putUndef K;have k:=u o (by simp) a undef hd;rw[c]at k ⊢;exact Inv.runOps2 (tk:=tk) ok hf m n l (i+1) f this k (by rw[Cw];exact q)
theorem Inv.runOps {P:Program}{tab:Tab}(ok:bz P tab){fns:FuncId→Option Func}(hf:jk P fns){C:Sem1}(c:ie P B C cx){T:Act→Prop}(d:∀D' b w',erD D'=U→T b→Inv cx D' [] b.tmps w'→Q .normal b w')(l:List Oper)(i:Nat)(f:∀o∈l,∀a y,T a→T (a.put o.dst y))(I:Inv cx D [] a.tmps w)(hd:T a)(e:Am.runOps tab fns C tk ops l i (erD D)=some U):wpList P ops Q l a w:=by
 have:=Inv.runOps2 (l2:=[]) (Q:=Q) ok hf c d l i f I hd e
 rwa [WX]at this
section
variable  {δ β : Type}
def kill1 (D:St δ β)(t:Nat):St δ β:=if t<D.length then bj D (some t) .any else D
def killAll (l:List Nat)(D:St δ β):St δ β:=l.foldl kill1 D
theorem qJ (D:St δ β)(t:Nat):(kill1 D t).length=D.length:=by
 unfold kill1;split
 ·simp[bj,bm,St.dead]
 ·rfl
theorem qc (D:St δ β)(t u:Nat)(h:t<D.length):(kill1 D t)[u]?=if u=t then some .any else(D[u]?).map (Sl.clean t):=by
 unfold kill1;rw[Wz h];simp only[bj,bm];by_cases e:u=t
 ·subst e;rw[Wz rfl,WN (by simp[St.dead];exact h)];rfl
 ·rw[WM e,WR (fun q=>e q.symm),WR (fun q=>e q.symm)];simp only[St.dead,WQ,XD];rfl
theorem x6 (l:List Nat):∀(D:St δ β),(killAll l D).length=D.length:=by
 induction l with
 |nil=>intro D;rfl
 |cons a l b=>intro D;simp only[killAll,X3];exact(b _).trans (qJ D a)
theorem z7:∀(l:List Nat){D D':St δ β},D.length=D'.length→(∀u,u∉l→D[u]?=D'[u]?)→killAll l D=killAll l D'
 |[],D,D',b,h=>XT fun u=>h u (by simp)
 |a::l,D,D',b,h=>by
  simp only[killAll,X3];refine z7 l (by rw[qJ,qJ,b]) fun u f=>?_
  by_cases c:a<D.length
  ·rw[qc D a u c,qc D' a u (b ▸ c)];by_cases e:u=a
   ·rw[Wz e,Wz e]
   ·rw[WM e,WM e,h u (by simp[e,f])]
  ·have d:¬a<D'.length:=b ▸ c;unfold kill1;rw[WM c,WM d];by_cases e:u=a
   ·subst e;rw[WF (by omega),WF (by omega)]
   ·exact h u (by simp[e,f])
end
theorem wV {δ β:Type}{t:Nat}:∀(l:List Nat){D:St δ β},t<D.length→t∈l∨D[t]?=some .any→(killAll l D)[t]?=some .any
 |[],D,_,h=>by
  rcases h with h|h
  ·cases h
  ·exact h
 |a::l,D,c,h=>by
  simp only[killAll,X3];refine wV l (by rw[qJ];exact c) ?_;by_cases b:a<D.length
  ·rw[qc D a t b];by_cases e:t=a
   ·right;rw[Wz e]
   ·rw[WM e];rcases h with h|h
    ·left;simpa[e]using h
    ·right;rw[h];rfl
  ·rcases h with h|h
   ·left;have:t≠a:=by omega
    simpa[this]using h
   ·right;unfold kill1;rw[WM b];exact h
theorem S1 (D:DSt)(t:Nat):erD (kill1 D t)=kill1 (erD D) t:=by
 unfold kill1;rw[fO];split
 ·exact cE D (some t) .any
 ·rfl
theorem lO (l:List Nat):∀(D:DSt),erD (killAll l D)=killAll l (erD D):=by
 induction l with
 |nil=>intro D;rfl
 |cons a l b=>intro D;simp only[killAll,X3];rw[←S1];exact b _
theorem Inv.kill1 (I:Inv cx D [] tm w)(t:Nat):Inv cx (kill1 D t) [] tm w:=by
 unfold Am.kill1;split
 ·exact I.lose ‹_›
 ·exact I
theorem Inv.killAll (l:List Nat):∀{D:DSt},Inv cx D [] tm w→Inv cx (killAll l D) [] tm w:=by
 induction l with
 |nil=>intro D I;exact I
 |cons a l b=>intro D I;simp only[Am.killAll,X3];exact b (I.kill1 a)
theorem NO {t:DT}(h:t.dead p=u)(a:u.isOwn=true):t=u:=by
 cases t with
 |v x=>exact h
 |any=>exact h
 |s k d z r =>
  cases k with
  |own=>exact h
  |far=>exact h
  |lent b c e =>simp only[T.dead]at h;split at h<;>(subst h;cases a)
theorem uK {c:Nat}(e:aw (kill1 D t) h c=some u)(b:u.isOwn=true):aw D h c=some u:=by
 by_cases a:t<D.length
 ·unfold aw at e;rw[qc D t h a]at e;by_cases hh:h=t
  ·rw[Wz hh]at e;simp[bh]at e
  ·rw[WM hh]at e;have:aw D h c=(D[h]?.bind bh).bind (·[c]?):=rfl;rw[this];cases hd:D[h]? with
   |none=>rw[hd]at e;simp at e
   |some s =>
    rw[hd]at e;simp only[WB,Wy,Sl.clean,xU,xT]at e ⊢;cases hc:bh s with
    |none=>rw[hc]at e;simp at e
    |some cs =>rw[hc]at e;simp only[WB,Wy,WQ]at e ⊢;rw[WD]at e;obtain⟨g,d,f⟩:=e;rw[d,NO f b]
 ·unfold kill1 at e;rw[WM a]at e;exact e
theorem HT {b:Nat×Nat}{ts:List DT}(e:(kill1 D t)[h]?=some (.box b ts)):∃c,D[h]?=some (.box b c):=by
 by_cases d:t<D.length
 ·rw[qc D t h d]at e;by_cases hh:h=t
  ·rw[Wz hh]at e;cases e
  ·rw[WM hh,WD]at e;obtain⟨s,f,a⟩:=e;rw[f];cases s with
   |box g ts'=>simp only[Sl.clean,Sl.dead,Sl.gone]at a;cases a;exact⟨_,rfl⟩
   |al=>simp only[Sl.clean,Sl.dead]at a;split at a<;>cases a
   |pe=>simp only[Sl.clean,Sl.dead]at a;split at a<;>cases a
   |pb=>simp only[Sl.clean,Sl.dead,Sl.gone]at a;split at a<;>cases a
   |clo=>simp only[Sl.clean,Sl.dead,Sl.gone]at a;split at a<;>cases a
   |im k b ts off =>
    cases k with
    |lent=>simp only[Sl.clean,Sl.dead]at a;split at a<;>cases a
    |_=>cases a
   |_=>cases a
 ·unfold kill1 at e;rw[WM d]at e;exact⟨ts,e⟩
theorem Ak {c:Nat}{n:Nat}(e:fi (kill1 D t) h c st d z n):fi D h c st d z n:=by obtain⟨u,b,a,f⟩:=e;exact⟨u,uK b a,a,f⟩
theorem SH {s:DSl}(h:VS (kill1 D t) s y):VS D s y:=by
 cases s with
 |al j c st lo len=>obtain⟨d,z,n,a,e,g⟩:=h;exact⟨d,z,n,a,Ak e,g⟩
 |pe j c st i off=>obtain⟨d,z,n,e,g⟩:=h;exact⟨d,z,n,Ak e,g⟩
 |pb j off=>obtain⟨b,ts,e,g⟩:=h;obtain⟨k,l⟩:=HT e;exact⟨b,k,l,g⟩
 |clo f hs =>obtain⟨m,e,g,l⟩:=h;refine⟨m,e,fun i j b hi hb=>?_,l⟩;obtain⟨ts,o⟩:=g i j b hi hb;exact HT o
 |_=>exact h
theorem MG (h:bQ cx (kill1 D t) u):bQ cx D u:=by
 cases u with
 |v x=>trivial
 |any=>trivial
 |s k d z r =>
  cases k with
  |own=>trivial
  |far=>exact h
  |lent e f g=>obtain⟨v,b,a,c⟩:=h;exact⟨v,uK b a,a,c⟩
theorem MF {s:DSl}(h:fa cx (kill1 D t) s):fa cx D s:=by
 cases s with
 |im k b ts off =>
  cases k with
  |own=>exact h
  |far=>exact h
  |lent g i j=>obtain⟨v,c,a,d⟩:=h;exact⟨v,uK c a,a,d⟩
 |fni f caps=>exact h
 |_=>exact fun u e=>MG (h u e)
theorem Tells.kill {s:DSl}(l:List Nat):∀{D:DSt},Tells cx (killAll l D) w s y→Tells cx D w s y:=by
 induction l with
 |nil=>intro D h;exact h
 |cons a l c =>intro D h;simp only[Am.killAll,X3]at h;have b:=c h;exact⟨SH b.val,b.mem,MF b.kind,b.noown⟩
theorem wL {s:DSl}(h:¬cZ t s):s.clean t=s:=by
 have o:∀u:DT,¬(∃c g d z r,u = .s (.lent t c g) d z r)→u.dead (atH t)=u:=by
  intro u j;cases u with
  |v x=>rfl
  |any=>rfl
  |s k d z r =>
   cases k with
   |own=>rfl
   |far=>rfl
   |lent a l g =>
    have m:atH t a l=false:=by
     cases e:atH t a l with
     |false=>rfl
     |true =>
      have e:a=t:=by simpa[atH]using e
      subst e;exact absurd ⟨l,g,d,z,r,rfl⟩ j
    simp[T.dead,m]
 have n:∀us:List DT,¬(∃u∈us,∃c g d z r,u = .s (.lent t c g) d z r)→us.map (T.dead (atH t))=us:=by
  intro us j
  conv=>rhs;rw[←YG us]
  exact Xi fun u p=>o u fun⟨c,g,d,z,r,e⟩=>j ⟨u,p,c,g,d,z,r,e⟩
 unfold Sl.clean;cases s with
 |any=>rfl
 |one u=>simp only[Sl.dead,Sl.gone];rw[o u h]
 |agg ts=>simp only[Sl.dead,Sl.gone];rw[n ts h]
 |box b ts=>simp only[Sl.dead,Sl.gone];rw[n ts h]
 |al a c st lo len =>have:¬a=t:=h;simp[Sl.dead,Sl.gone,qH,this]
 |pe a c st i off =>have:¬a=t:=h;simp[Sl.dead,Sl.gone,qH,this]
 |pb a off =>have:¬a=t:=h;simp[Sl.dead,Sl.gone,this]
 |im k b ts off =>
  cases k with
  |own=>rfl
  |far=>rfl
  |lent a l g =>have:¬a=t:=h;simp[Sl.dead,Sl.gone,atH,this]
 |fni f caps=>rfl
 |clo f hs =>have:¬t∈hs:=h;simp[Sl.dead,Sl.gone,this]
 |tup rs =>
  simp only[Sl.dead,Sl.gone];congr 1
  conv=>rhs;rw[←YG rs]
  refine Xi fun r q=>?_
  rw[n r.2 fun⟨u,j,c,g,d,z,w,e⟩=>h ⟨r,q,u,j,c,g,d,z,w,e⟩];rfl
theorem oU {s:DSl}(b:∀s'∈D,¬cZ t s')(hs:¬cZ t s):bj D (some t) s=D.set t s:=by
 simp only[bj];rw[wL hs];have:(St.dead (atH t) (qH t) D).map (Sl.gone t)=D:=by
  simp only[St.dead,Xk]
  conv=>rhs;rw[←YG D]
  exact Xi fun s' a=>wL (b s' a)
 unfold bm;rw[this,Zs]
def bL (ops:Array Oper)(j:Nat):List Nat :=
 match ops[j]? with
 |some o=>(o.after.toList.filter (Region.binds .any)).map (·.on)
 |none=>[]
def dw (ops:Array Oper)(m:Nat):List Nat:=(List.range m).filterMap fun i=>(ops[i]?).bind (·.dst)
section
variable  {P : Program}{tab : Tab}
theorem Ji (ok:bz P tab)(I:Inv cx D [] a.tmps w){dst:Option Nat}{l c:Operand}(e:fo mkD (frD w) tab D dst t l c=some D'):∃y w' d V z rows,dst=some d∧D'=bj D (some d) (.one (.s .own V z rows))∧(Instr.makeSlice t (a.eval l) (a.eval c)).run P w = .ok y w'∧Grew w w'∧QU w w' (.s .own V z rows) y:=by
 unfold fo at e;split at e
 case h_2=>cases e
 rename_i sz W ze o d n k F X H;split at e
 case h_2=>cases e
 rename_i m J;split at e
 case isFalse=>cases e
 rename_i hc;split at e
 case isFalse=>cases e
 rename_i Y;cases e;obtain⟨hd,Z,K⟩:=hc;obtain⟨n1,n2,n3,n4⟩:=Y;have hu:=gM (Tab.ok ok F) rfl;obtain⟨i,d',z,g1,Z0,L,g4,g5,M,g7,g3⟩:=iq (Tab.ok ok J);have G:=lW (P:=P) (t:=o) (w:=w) (cx:=cx) (D:=D) (ys:=z.cells.toList) g3;rw[←M]at G;have B:z.cells.size=m.size:=by rw[←K,M];simp[en]
 have A:∀t∈m.zero.map (T.inj nilD),t.fine=true:=by intro t C;rw[M]at C;simp only[WU,en,XK]at C;obtain⟨u,⟨j,hj,rfl⟩,rfl⟩:=C;unfold zT;split<;>rfl
 obtain⟨kl,N⟩:=I.opInt X;obtain⟨kc,O⟩:=I.opInt H;have f:=run_make w t o i z hu g1 L kl kc n k n1 n2 (by rw[g5];exact n3) (by omega);rw[←N, ←O]at f;have R:=RowsAre.init G.v (by omega) k.toNat;have Q:(madeCells z.cells (k.toNat*i.size))=((Array.range (k.toNat*z.cells.size)).map (fun i=>z.cells[i % z.cells.size]!)):=by unfold madeCells;rw[g4,B]
 rw[Q]at f;rw[B]at R f;generalize p:(Array.range (k.toNat*m.size)).map (fun i=>z.cells[i % m.size]!)=cells at R f;have g:=Grew.alloc w (.cells cells o);have q:(w.alloc (.cells cells o)).heap[w.heap.size]?=some (.cells cells o (0,0)):=by show(w.heap.push _)[w.heap.size]?=_;simp
 have Z1:n.toNat≤k.toNat:=by omega
 have r:∀(i:Nat)(row:List DT),(List.replicate n.toNat (m.zero.map (T.inj nilD)))[i]?=some row→(List.replicate k.toNat (m.zero.map (T.inj nilD)))[i]?=some row:=by
  intro i row h;rw[YC]at h ⊢;split at h
  ·rw[Wz (by omega)];exact h
  ·cases h
 have S:∀(i:Nat)(row:List DT)(j:Nat)(t:DT),(List.replicate n.toNat (m.zero.map (T.inj nilD)))[i]?=some row→row[j]?=some t→DF w t:=fun i row j t hi hj=>by have:=XE (WC hi);subst this;exact G.bare A t (WC hj)
 have U:cells.size=k.toNat*m.size:=by rw[←p];simp
 have hH:Holds (w.alloc (.cells cells o)) (.s .own ((frD w).row k.toNat) m.size (List.replicate n.toNat (m.zero.map (T.inj nilD)))):=by refine .s _ _ _ _ rfl rfl _ o (0,0) q (by simp[frD];omega) (fun i row h=>R.row i row (r i row h)) (fun i row j t hi hj=>?_) (fun i row j t hi hj=>(S i row j t hi hj).holds.frame fun b _ hb=>g.same b hb);obtain⟨y,y1,y2⟩:=R.val i row j t (r i row hi) hj;exact⟨y,by simpa[frD]using y1,y2⟩
 have hO:OwnT (w.alloc (.cells cells o)) (.s .own ((frD w).row k.toNat) m.size (List.replicate n.toNat (m.zero.map (T.inj nilD)))):=by refine .s _ _ _ rfl rfl _ o 0 0 q (by simp[frD];omega) (by simp[frD,U]) (fun x _ _ h=>by omega) (fun i row j t hi hj=>?_);have:=S i row j t hi hj;exact(sN this.fine this.own).frame fun b _ hb=>g.same b hb
 have s:(List.replicate n.toNat (m.zero.map (T.inj mkD.nil))).flatMap (fun x=>x.flatMap Am.bl)=[]:=by rw[WY];intro row hr;rw[WY];intro t C;obtain⟨i,hi⟩:=WL hr;obtain⟨j,hj⟩:=WL C;exact(S i row j t hi hj).bl
 refine⟨_,_,d,(frD w).row k.toNat,m.size,_,rfl,rfl,f,g,⟨by simp[VT,Dec.addr,frD],hH,hO,?_,fun b hb=>?_⟩⟩
 ·intro b;rw[cS,s];simp only[frD,W2,Xs,WX];rw[List.count_singleton];split<;>omega
 ·rw[cS,s]at hb;simp[frD]at hb;subst hb;exact⟨Xj _,by simp⟩
end
def uO (M:US)(x:Operand)(i:Nat):Option (Sl Unit Unit):=
 match x with
 | .tmp q =>
  match M[q]? with
  |some (.tup rs)=>
   match rs[i]? with
   |some (false,[.v y])=>some (.one (.v y))
   |_=>none
  |_=>none
 |_=>none
theorem M6 {M:US}{x:Operand}{i:Nat}{s:Sl Unit Unit}(h:uO M x i=some s):∃q rs y,x = .tmp q∧M[q]?=some (.tup rs)∧rs[i]?=some (false,[.v y])∧s = .one (.v y):=by
 unfold uO at h;split at h
 case h_2=>cases h
 rename_i q;split at h
 case h_2=>cases h
 rename_i rs a;split at h
 case h_2=>cases h
 rename_i y hi;cases h;exact⟨q,rs,y,rfl,a,hi,rfl⟩
theorem IE {P:Program}(I:Inv cx D [] a.tmps w){o:Oper}{x:Operand}{i:Nat}(j:o.op = .extract x i){s:Sl Unit Unit}(e:uO (erD D) x i=some s):
  ∃y,s = .one (.v y)∧(execOp a.eval o).run P w = .ok (.value y) w∧Tells cx D w (.one (.v y)) y:=by
 obtain⟨q,rs,y,rfl,u,hi,rfl⟩:=M6 e;rw[cl,WD]at u;obtain⟨A,J,B⟩:=u;obtain⟨b,rfl,rfl⟩:∃b,A = .tup b∧rs=b.map fun r=>(r.1,erL r.2):=by
  cases A with
  |tup b=>exact⟨b,rfl,by simpa[Sl.er]using B.symm⟩
  |_=>simp[Sl.er]at B
 rw[WQ,WD]at hi;obtain⟨⟨g,ts⟩,l,c⟩:=hi;simp only[Zk]at c;obtain⟨rfl,c⟩:=c;have K:ts=[.v y]:=by
  match ts,c with
  |[],c=>simp at c
  |[t],c =>
   simp only[WT,Xc,X4,YF]at c;cases t with
   |v x=>rw[dC]at c;cases c;rfl
   |any=>cases c
   |s k d z r=>rw[aH]at c;cases c
  |t::t2::r,c=>simp at c
 subst K;obtain⟨h,L,C,f⟩:=I.val q _ J;have M:i<b.length:=by
  rcases WI i b.length with g|g
  ·exact g
  ·rw[WF g]at l;cases l
 have F:=f i _ h.toList[i] l (WE (by omega));simp only[VPart,W2,Xs]at F;obtain⟨t',G,m⟩:=F;simp only[X4,YF]at G;subst G;have n:a.eval (.tmp q)= .tuple h:=L;have hv:h[i]?=some y:=by have p:h.toList[i]=y:=m.1;rw[←p];simp
 refine⟨y,rfl,?_,Tells.one (t := .v y) ⟨rfl,by have p:h.toList[i]=y:=m.1;have H:=m.2;rw[p]at H;exact H⟩ (.v _) trivial rfl⟩;simp[execOp,j,n,Instr.extract,hv]
def stepV (tab:Tab)(fns:FuncId→Option Func)(C:Sem1)(M:US)(o:Oper):Option (Sl Unit Unit):=
 match callTo M o with
 |some (f,xs,caps)=>if(fns f).isSome∧tab.io.lookup f=none then(argsW mkU tab f M xs).bind fun as=>(C f (as++ims caps)).bind fun rs=>sE mkU rs else none
 |none =>
  match o.op with
  | .buildSlice t len a =>
   match o.dst with
   |some d=>(fm mkU frU tab M (some d) t len a.toList).bind fun U=>match U[d]? with|some (.one u)=>if u.isOwn then some (.one u)else none|_=>none
   |none=>none
  | .makeSlice t l c =>
   match o.dst with
   |some d=>(fo mkU frU tab M (some d) t l c).bind fun U=>match U[d]? with|some (.one u)=>if u.isOwn then some (.one u)else none|_=>none
   |none=>none
  | .alloc b=>(tab.ti b).map fun ti=>.box () (ti.zero.map (T.inj ()))
  | .extract x i=>uO M x i
  | .move x=>match ko M x with|some rs=>some (.tup rs)|none=>cf mkU tab M (.move x)
  | .build b a=>nA mkU tab M b a.toList
  |op=>cf mkU tab M op
def KO (ops:Array Oper)(M:US)(o:Oper)(K:Option (Sl Unit Unit)):Option (Sl Unit Unit):=
 match o.guard with
 |none=>K
 |some (j,a)=>
  match((ops[j]?).bind (·.dst)).bind (yieldAt M)with
  |some b=>if b=some a then K else some (.tup [])
  |none=>none
theorem LM (hf:∀r∈rd,∀t∈r.2,t.fine=true){s:DSl}(h:sE mkD rd=some s)(t:Nat):¬cZ t s:=by
 have f:∀r∈rd,∀u∈r.2,¬ ∃c j d z r,u=(.s (.lent t c j) d z r:DT):=by rintro r k u i ⟨c,j,d,z,m,rfl⟩;exact absurd (hf r k _ i) (by simp[T.fine])
 unfold sE at h;split at h
 ·rename_i r;split at h
  ·rename_i b row a;cases h;rintro⟨u,i,c,j,d,z,m,rfl⟩;unfold zw at a;split at a
   case h_2=>cases a
   unfold uC at a;split at a
   case h_2=>cases a
   split at a
   case isFalse=>cases a
   rename_i l;cases a;exact absurd (WS.1 l _ i) (by simp[T.fine])
  obtain⟨g,ts⟩:=r;cases g with
  |true=>cases h;exact fun⟨u,i,e⟩=>f _ (Xe _) u i e
  |false =>
   match ts,h with
   |[u],h=>cases h;exact fun e=>f _ (Xe _) u (Xe _) e
 ·cases h;exact fun⟨r,k,u,i,e⟩=>f r k u i e
theorem Inv.stepV {P:Program}{tab:Tab}(ok:bz P tab){fns:FuncId→Option Func}(hf:jk P fns){C:Sem1}(hC:ie P B C cx)(I:Inv cx D [] a.tmps w){o:Oper}(hd:o.dst=some t)(W:D[t]?=some .any){s:Sl Unit Unit}(e:Am.stepV tab fns C (Am.killAll l (erD D)) o=some s){K:Act→World→Prop}(Z:∀D' a' w',erD D'=(erD D).set t s→(∃y,a'=a.put o.dst y)→Inv cx D' [] a'.tmps w'→K a' w'):o.wp P a w K Q:=by
 have q:t<D.length:=by
  rcases WI t D.length with g|g
  ·exact g
  ·rw[WF g]at W;cases W
 rw[←lO]at e;have Y:=I.killAll l;unfold Am.stepV at e;split at e
 ·rename_i f xs caps hc;split at e
  case isFalse=>cases e
  rename_i Z6;obtain⟨fn,Z7⟩:=Yl.1 Z6.1;obtain⟨p1,p2,p3⟩:=hf f fn Z7;rw[WA]at e;obtain⟨as,M,e⟩:=e;rw[WA]at e;obtain⟨rs,J,X⟩:=e;rw[Kt]at M;obtain⟨ad,Z8,rfl⟩:=WD.1 M;obtain⟨hA,hN⟩:=Y.argsW (Out.nil cx _) Z8;obtain⟨c,x,O,k,Z3,rfl,rfl,Z9,hev⟩:=Y.callTo hc;have hA2:=hA.ims Z9;have hN2:∀s∈ad++ims O,s.isHome=false:=fun s hs=>(W5.1 hs).elim (hN s) (K5 s)
  have Z0:=hC.1 f _ rs J w [] (ad++ims O) _ (hC.2.at I (Out.nil cx D)) (by rw[XB,Rh]) hA2;have G:=Ik (w:=w) k Z3 hev p1 p2 p3;unfold Oper.wp;rw[G];refine Z0.mono ?_;rintro e w' ⟨v,od,rd,rfl,g,A,hO,R⟩;have:=OutsOk.none hN2 hO;subst this;rw[Gg]at A;subst A;rw[KD]at X;obtain⟨n,Z4,rfl⟩:=WD.1 X;have H:Am.putRet mkD D o.dst rd=some (bj D (some t) n):=by rw[hd];simp only[Am.putRet];rw[Wz q,Z4];rfl
  have F:=I.putRet (a:=a) g.grew R H;have L:bj D (some t) n=D.set t n:=oU (fun s' p=>by obtain⟨u,m⟩:=WL p;exact I.any_refs W (I.val u s' m) (I.kind s' p)) (LM (by simpa using R.fine) Z4 t);rw[L]at F;exact Z _ _ _ (ic D t n) ⟨_,rfl⟩ F
 ·split at e
  ·rename_i bt len Z1 k;rw[hd]at e;simp only at e;rw[WA]at e;obtain⟨U,k1,k2⟩:=e;rw[vP w]at k1;obtain⟨DM',k3,rfl⟩:=WD.1 k1;obtain⟨y,w',d',N,z,rows,j1,j2,j3,j4,S⟩:=Gc ok Y k3;cases j1;subst j2;have V:(erD (bj (Am.killAll l D) (some t) (.one (.s .own N z rows))))[t]?=some (.one (.s .own () z (rows.map erL))):=by
    rw[cl];have hl:t<(bm t (Am.killAll l D)).length:=by simp[bm,St.dead,x6];exact q
    simp only[bj];rw[WN hl];simp[Sl.clean,Sl.dead,Sl.gone,T.dead,Sl.er,aH]
   rw[V]at k2;simp only[T.isOwn,W8]at k2;cases k2;have R:RetOk w [] w' [] [] [(false,[(.s .own N z rows:DT)])] y:=by
    refine⟨.inl ⟨_,rfl,?_⟩,fun r A u m=>?_,fun r A u m=>?_,fun r A u m _=>?_,fun b=>?_,fun b hb=>?_⟩
    ·simp only[VPart,W2,Xs];exact⟨_,rfl,S.val⟩
    ·rw[W7,WG]at A;subst A;rw[WG]at m;subst m;rfl
    ·rw[W7,WG]at A;subst A;rw[WG]at m;subst m;exact S.holds
    ·rw[W7,WG]at A;subst A;rw[WG]at m;subst m;exact S.own
    ·simpa[ownR,T.isOwn,bG]using S.once b
    ·have:=S.new b (by simpa[ownR,T.isOwn,bG]using hb);exact⟨.inl this.1,this.2⟩
   have H:Am.putRet mkD D o.dst [(false,[(.s .own N z rows:DT)])]=some (bj D (some t) (.one (.s .own N z rows))):=by rw[hd];simp only[Am.putRet];rw[Wz q];rfl
   have F:=I.putRet (a:=a) j4 R H;have L:bj D (some t) (.one (.s .own N z rows))=D.set t (.one (.s .own N z rows)):=oU (fun s' p=>by obtain⟨u,m⟩:=WL p;exact I.any_refs W (I.val u s' m) (I.kind s' p)) (fun⟨c,fl,d,z,r,h⟩=>by cases h);rw[L]at F;have G:(execOp a.eval o).run P w = .ok (.value y) w':=by simp[execOp,k,j3]
   unfold Oper.wp;rw[G];exact Z _ _ _ (by rw[ic];simp[Sl.er,aH]) ⟨_,rfl⟩ F
  ·rename_i bt lo hi k;rw[hd]at e;simp only at e;rw[WA]at e;obtain⟨U,k1,k2⟩:=e;rw[xN w]at k1;obtain⟨DM',k3,rfl⟩:=WD.1 k1;obtain⟨y,w',d',N,z,rows,j1,j2,j3,j4,S⟩:=Ji ok Y k3;cases j1;subst j2;have V:(erD (bj (Am.killAll l D) (some t) (.one (.s .own N z rows))))[t]?=some (.one (.s .own () z (rows.map erL))):=by
    rw[cl];have hl:t<(bm t (Am.killAll l D)).length:=by simp[bm,St.dead,x6];exact q
    simp only[bj];rw[WN hl];simp[Sl.clean,Sl.dead,Sl.gone,T.dead,Sl.er,aH]
   rw[V]at k2;simp only[T.isOwn,W8]at k2;cases k2;have R:RetOk w [] w' [] [] [(false,[(.s .own N z rows:DT)])] y:=by
    refine⟨.inl ⟨_,rfl,?_⟩,fun r A u m=>?_,fun r A u m=>?_,fun r A u m _=>?_,fun b=>?_,fun b hb=>?_⟩
    ·simp only[VPart,W2,Xs];exact⟨_,rfl,S.val⟩
    ·rw[W7,WG]at A;subst A;rw[WG]at m;subst m;rfl
    ·rw[W7,WG]at A;subst A;rw[WG]at m;subst m;exact S.holds
    ·rw[W7,WG]at A;subst A;rw[WG]at m;subst m;exact S.own
    ·simpa[ownR,T.isOwn,bG]using S.once b
    ·have:=S.new b (by simpa[ownR,T.isOwn,bG]using hb);exact⟨.inl this.1,this.2⟩
   have H:Am.putRet mkD D o.dst [(false,[(.s .own N z rows:DT)])]=some (bj D (some t) (.one (.s .own N z rows))):=by rw[hd];simp only[Am.putRet];rw[Wz q];rfl
   have F:=I.putRet (a:=a) j4 R H;have L:bj D (some t) (.one (.s .own N z rows))=D.set t (.one (.s .own N z rows)):=oU (fun s' p=>by obtain⟨u,m⟩:=WL p;exact I.any_refs W (I.val u s' m) (I.kind s' p)) (fun⟨c,fl,d,z,r,h⟩=>by cases h);rw[L]at F;have G:(execOp a.eval o).run P w = .ok (.value y) w':=by simp[execOp,k,j3]
   unfold Oper.wp;rw[G];exact Z _ _ _ (by rw[ic];simp[Sl.er,aH]) ⟨_,rfl⟩ F
  ·rename_i bt k;rw[WD]at e;obtain⟨ti,Z5,rfl⟩:=e;have hal:pW mkD (frD w) tab D (some t) bt=some (bj D (some t) (.box (frD w).box (ti.zero.map (T.inj mkD.nil)))):=by simp only[pW,Z5];rw[Wz q]
   obtain⟨y,w',M,J⟩:=CR ok I hal;obtain⟨z,g1,g2,g3⟩:=yG (Tab.ok ok Z5) w;have Z2:∀t∈ti.zero.map (T.inj mkD.nil),t.fine=true:=by intro t ht;rw[g2]at ht;simp only[WU,en,XK]at ht;obtain⟨u,⟨j,hj,rfl⟩,rfl⟩:=ht;unfold zT;split<;>rfl
   have L:bj D (some t) (.box (frD w).box (ti.zero.map (T.inj mkD.nil)))=D.set t (.box (frD w).box (ti.zero.map (T.inj mkD.nil))):=oU (fun s' p=>by obtain⟨u,m⟩:=WL p;exact I.any_refs W (I.val u s' m) (I.kind s' p)) (fun⟨u,m,c,fl,d,z,r,h⟩=>by have:=Z2 u m;rw[h]at this;simp[T.fine]at this);rw[L]at J;have G:(execOp a.eval o).run P w = .ok (.value y) w':=by simp[execOp,k,M]
   unfold Oper.wp;rw[G];rw[←hd]at J;exact Z _ _ _ (by rw[ic];show(erD D).set t (.box () (erL (ti.zero.map (T.inj mkD.nil))))=_;rw[←rA]) ⟨_,rfl⟩ J
  ·rename_i x i k;obtain⟨y,rfl,M,J⟩:=IE (P:=P) Y k e;have X:=J.kill l;unfold Oper.wp;rw[M];have F:Inv cx (Am.putA D t (.one (.v y))) [] (a.put (some t) y).tmps w:=I.putA q X;have L:Am.putA D t (.one (.v y))=D.set t (.one (.v y)):=by unfold Am.putA;rw[W]
   rw[L, ←hd]at F;exact Z _ _ _ (by rw[ic];simp[Sl.er,dC]) ⟨_,rfl⟩ F
  ·rename_i x k;rw[EU]at e;have I3:∀(n:DSl)(y:Value),(execOp a.eval o).run P w = .ok (.value y) w→Tells cx (Am.killAll l D) w n y→s=n.er→o.wp P a w K Q:=fun n y M J he=>by
    have X:=J.kill l;unfold Oper.wp;rw[M];have F:Inv cx (Am.putA D t n) [] (a.put (some t) y).tmps w:=I.putA q X;have L:Am.putA D t n=D.set t n:=by unfold Am.putA;rw[W]
    rw[L, ←hd]at F;exact Z _ _ _ (by rw[ic,he]) ⟨_,rfl⟩ F
   cases hT:ko (Am.killAll l D) x with
   |some rs =>rw[hT]at e;simp only[WB,Xd]at e;exact I3 (.tup rs) (a.eval x) (by simp[execOp,k]) (Ip Y hT) e.symm
   |none =>rw[hT]at e;simp only[Zv]at e;rw[DN]at e;obtain⟨n,e',rfl⟩:=WD.1 e;rw[←k]at e';obtain⟨y,M,J⟩:=sq ok Y e';exact I3 n y M J rfl
  ·rename_i bt Z1 k;rw[EO]at e;obtain⟨n,e',rfl⟩:=WD.1 e;obtain⟨y,M,J⟩:=CU ok Y e';have X:=J.kill l;have G:(execOp a.eval o).run P w = .ok (.value y) w:=by simp[execOp,k,M]
   unfold Oper.wp;rw[G];have F:Inv cx (Am.putA D t n) [] (a.put (some t) y).tmps w:=I.putA q X;have L:Am.putA D t n=D.set t n:=by unfold Am.putA;rw[W]
   rw[L, ←hd]at F;exact Z _ _ _ (ic D t n) ⟨_,rfl⟩ F
  rw[DN]at e;obtain⟨n,e',rfl⟩:=WD.1 e;obtain⟨y,M,J⟩:=sq ok Y e';have X:=J.kill l;unfold Oper.wp;rw[M];have F:Inv cx (Am.putA D t n) [] (a.put (some t) y).tmps w:=I.putA q X;have L:Am.putA D t n=D.set t n:=by unfold Am.putA;rw[W]
  rw[L, ←hd]at F;exact Z _ _ _ (ic D t n) ⟨_,rfl⟩ F
section
variable  {δ β : Type}
def T.isV:T δ→Bool| .v _=>true|_=>false
def iP:Sl δ β→Option (List (T δ))| .one u=>if u.isOwn=true then some [u]else none| .agg ts=>if ts.all (fun t=>t.isOwn ||t.isV)=true then some ts else none|_=>none
def kG:Sl δ β→Option (T δ)| .one (.v x)=>some (.v x)|_=>none
def gE (rd:Nat→Option (Sl δ β))(pl:List (Nat×Nat)):List (Nat×Operand)→List (T δ)→Option (List (T δ))
 |[],ts=>some ts
 |(i,x)::r,ts =>
  match x with
  | .tmp q =>
   match pl[i]?,(rd q).bind kG with
   |some (off,size),some t=>if 1=size∧off+1≤ts.length then gE rd pl r (au ts off [t])else none
   |_,_=>none
  |_=>none
def yL (rs:List (Bool×List (T δ))):Bool:=rs.all (fun r=>r.2.all fun t=>t.isOwn ||t.isV) && !(rs.all fun r=>r.2.all T.flat)
def lC:Sl δ β→Option (List (Bool×List (T δ)))| .tup rs=>if yL rs=true then some rs else none|_=>none
def takeSlot (o:Oper):Option Nat :=
 match o.op with
 | .buildSlice _ _ a=>match a.toList with|[(0,.tmp u)]=>some u|_=>none
 | .build _ a=>match a.toList with|(_,.tmp u)::_=>some u|_=>none
 | .move x=>match x with| .tmp u=>some u|_=>none
 |_=>none
def tM (M:Mk δ β)(F:nv δ β)(tab:Tab)(rd:Nat→Option (Sl δ β))(o:Oper):Option (Sl δ β):=
 match o.op with
 | .buildSlice t len a =>
  match tab.ti t,a.toList with
  |some ⟨_,_,_,.slice e⟩,[(0,.tmp u)]=>
   match tab.ti e,(rd u).bind iP with
   |some b,some us=>if len=1∧b.size≠0∧b.zero.length=b.size∧b.size≤2 ^ 24∧us.length=b.size then some (.one (.s .own (F.row 1) b.size [us]))else none
   |_,_=>none
  |_,_=>none
 | .build t a =>
  match tab.ti t,tab.pl t,a.toList with
  |some ti,some pl,(i,.tmp u)::r =>
   match pl[i]?,(rd u).bind iP with
   |some (off,size),some us =>if us.length=size∧off+us.length≤(ti.zero.map (T.inj M.nil)).length then(gE rd pl r (au (ti.zero.map (T.inj M.nil)) off us)).map fun ts=>.agg ts else none
   |_,_=>none
  |_,_,_=>none
 | .move x=>match x with| .tmp u=>((rd u).bind lC).map .tup|_=>none
 |_=>none
theorem Sa {x:Sl δ β}{t:T δ}(h:kG x=some t):∃y,x = .one (.v y)∧t = .v y:=by
 unfold kG at h;split at h
 ·cases h;exact⟨_,rfl,rfl⟩
 ·cases h
theorem wn {rd a:Nat→Option (Sl δ β)}(b:∀q x,rd q=some x→(kG x).isSome=true→a q=some x){pl:List (Nat×Nat)}:∀(r:List (Nat×Operand)){ts us:List (T δ)},
  gE rd pl r ts=some us→gE a pl r ts=some us
 |[],ts,us,h=>h
 |(i,x)::r,ts,us,h=>by
  simp only[gE]at h ⊢;split at h
  ·rename_i q;split at h
   ·rename_i off size t e c;rw[WA]at c;obtain⟨y,f,d⟩:=c;have g:=b q y f (by rw[d];rfl);simp only[e,g,Wy,d];split at h
    ·rename_i hc;rw[Wz hc];exact wn b r h
    ·cases h
   ·cases h
  ·cases h
theorem SD {M:Mk δ β}{F:nv δ β}{tab:Tab}{rd a:Nat→Option (Sl δ β)}(m:∀q x,rd q=some x→(kG x).isSome=true→a q=some x)(l:∀q x,rd q=some x→(iP x).isSome=true→a q=some x)(n:∀q x,rd q=some x→(lC x).isSome=true→a q=some x){o:Oper}{s:Sl δ β}(h:tM M F tab rd o=some s):tM M F tab a o=some s:=by
 unfold tM at h ⊢;split at h
 ·split at h
  ·rename_i d f;split at h
   ·rename_i v us g b;rw[WA]at b;obtain⟨y,e,c⟩:=b;have j:=l _ y e (by rw[c];rfl);simp only[d,f,g,j,Wy,c];exact h
   ·cases h
  ·cases h
 ·split at h
  ·rename_i ti pl i u r d k f;split at h
   ·rename_i off size us hi b;rw[WA]at b;obtain⟨y,e,c⟩:=b;have j:=l _ y e (by rw[c];rfl);simp only[d,k,f,hi,j,Wy,c];split at h
    ·rename_i hc;rw[Wz hc];rw[WD]at h ⊢;obtain⟨ts,p,t⟩:=h;exact⟨ts,wn m r p,t⟩
    ·cases h
   ·cases h
  ·cases h
 ·split at h
  ·rename_i u;rw[WD]at h;obtain⟨rs,b,rfl⟩:=h;rw[WA]at b;obtain⟨y,e,c⟩:=b;rw[n _ y e (by rw[c];rfl),Wy,c];rfl
  ·cases h
 ·cases h
theorem C4 (u:Nat)(D:St δ β):(bm u D).length=D.length:=by simp[bm,St.dead]
theorem KL {D:St δ β}{u q:Nat}{x:Value}(h:D[q]?=some (.one (.v x)))(a:q≠u):(bm u D)[q]?=some (.one (.v x)):=by unfold bm;rw[WR (fun e=>a e.symm)];simp only[St.dead,WQ,h,WB];rfl
theorem NR {M:Mk δ β}{D:St δ β}{q:Nat}{x:Value}(h:D[q]?=some (.one (.v x))):cellsCopy M D (.tmp q)=some (false,[.v x]):=by simp only[cellsCopy,opd,uL,h]
theorem uI {M:Mk δ β}{D:St δ β}{u:Nat}(b:∀x,D[u]?≠some (.one (.v x))){pl:List (Nat×Nat)}:∀(r:List (Nat×Operand)){ts us:List (T δ)},gE (fun q=>D[q]?) pl r ts=some us→cJ M (bm u D) pl r ts=some us
 |[],ts,us,h=>h
 |(i,x)::r,ts,us,h=>by
  simp only[gE]at h;simp only[cJ];split at h
  ·rename_i q;split at h
   ·rename_i off size t f c;rw[WA]at c;obtain⟨y,d,g⟩:=c;obtain⟨v,rfl,rfl⟩:=Sa g;have a:q≠u:=fun e=>b v (e ▸ d)
    rw[f,NR (KL d a)];simp only;split at h
    ·rename_i hc;rw[Wz (by simpa using hc)];exact uI b r h
    ·cases h
   ·cases h
  ·cases h
theorem DD {M:Mk δ β}{D:St δ β}{u:Nat}{x:Sl δ β}{us:List (T δ)}(h:D[u]?=some x)(a:iP x=some us):(∃g,cellsTake M D (.tmp u)=some (g,us,bm u D))∧us.all (fun t=>t.isOwn ||t.flat)=true∧∀y,D[u]?≠some (.one (.v y)):=by
 unfold iP at a;split at a
 ·rename_i t;split at a
  ·rename_i c;cases a;refine⟨⟨false,?_⟩,by simp[c],fun y e=>?_⟩
   ·simp only[cellsTake,h];rw[Wz c]
   ·rw[h]at e;cases e;cases c
  ·cases a
 ·rename_i ts;split at a
  ·rename_i b;cases a;refine⟨⟨true,?_⟩,?_,fun y e=>?_⟩
   ·simp only[cellsTake,h];rw[Wz];rw[WS]at b ⊢;intro t f;have:=b t f;cases t with
    |v x=>rfl
    |any=>rfl
    |s k d z r=>cases k<;>first|rfl|(simp[T.isOwn,T.isV]at this)
   ·rw[WS]at b ⊢;intro t f;have:=b t f;cases t with
    |v x=>rfl
    |any=>simp[T.isOwn,T.isV]at this
    |s k d z r=>cases k<;>first|rfl|(simp[T.isOwn,T.isV]at this)
   ·rw[h]at e;cases e
  ·cases a
 ·cases a
theorem SE {x:Sl δ β}{rs:List (Bool×List (T δ))}(h:lC x=some rs):x = .tup rs∧(rs.all fun r=>r.2.all T.noLent)=true∧(rs.all fun r=>r.2.all T.flat)=false:=by
 unfold lC at h;split at h
 ·rename_i rs';split at h
  ·rename_i a;cases h;unfold yL at a;rw[W0]at a;refine⟨rfl,?_,by simpa using a.2⟩;rw[WS];intro r b;rw[WS];intro t c;have:=WS.1 (WS.1 a.1 r b) t c;cases t with
   |v x=>rfl
   |any=>rfl
   |s k d z r=>cases k<;>first|rfl|(simp[T.isOwn,T.isV]at this)
  ·cases h
 ·cases h
theorem JR {M:Mk δ β}{F:nv δ β}{tab:Tab}{D:St δ β}{o:Oper}{u:Nat}(hd:o.dst=some t)(a:takeSlot o=some u)(p:t<D.length){s:Sl δ β}(z:bm u D=D.set u .any)(h:tM M F tab (fun q=>D[q]?) o=some s):
  dB M F tab D o true=some (bj (bm u D) (some t) s):=by
 unfold tM at h;unfold takeSlot at a;unfold dB;split at h
 ·rename_i A len d b;simp only[b]at a ⊢;split at h
  ·rename_i sz B K e u' f k;simp only[k]at a;cases a;split at h
   ·rename_i L us v c;rw[WA]at c;obtain⟨x,j,l⟩:=c;obtain⟨⟨g,m⟩,n,_⟩:=DD (M:=M) j l;split at h
    ·rename_i hc;cases h;rw[Wz trivial];simp only[kL,f,hd,k,v,m];rw[Wz ⟨hc.1,by rw[C4];exact p,hc.2.1,hc.2.2.1,hc.2.2.2.1,hc.2.2.2.2,n⟩]
    ·cases h
   ·cases h
  ·cases h
 ·rename_i A d b;simp only[b]at a ⊢;split at h
  ·rename_i ti pl i u' r f w k;simp only[k]at a;cases a;split at h
   ·rename_i off size us hi c;rw[WA]at c;obtain⟨x,j,l⟩:=c;obtain⟨⟨g,m⟩,n,C⟩:=DD (M:=M) j l;split at h
    ·rename_i hc;rw[WD]at h;obtain⟨ts,G,rfl⟩:=h;rw[Wz trivial];refine Kk ?_;simp only[qt,f,w,k,hd,hi,m];rw[Wz ⟨hc.1,hc.2,by rw[C4];exact p⟩,uI C r G];rfl
    ·cases h
   ·cases h
  ·cases h
 ·rename_i x b;simp only[b]at a ⊢;split at h
  ·rename_i u';cases a;rw[WD]at h;obtain⟨rs,a,rfl⟩:=h;rw[WA]at a;obtain⟨y,j,l⟩:=a;obtain⟨rfl,m,n⟩:=SE l;have H:ve tab o.type (.tmp u)=none:=rfl;have I:ko D (.tmp u)=none:=by simp only[ko,j];rw[WM (fun q=>by rw[n]at q;cases q.1)]
   have J:ot D (.tmp u) o.dst=some (bj (D.set u .any) (some t) (.tup rs)):=by simp only[ot,hd,j];rw[Wz ⟨p,m⟩]
   simp only[H,I,J,W8];rw[z]
  ·cases h
 ·cases h
end
theorem Ri (t:DT):t.er.isV=t.isV:=by
 cases t with
 |v x=>rfl
 |any=>rfl
 |s k d z r=>simp[aH,T.isV]
theorem Rs (x:DSl):iP x.er=(iP x).map erL:=by
 cases x with
 |one u =>simp only[Sl.er,iP,dz];split<;>rfl
 |agg ts =>
  simp only[Sl.er,iP];have:(erL ts).all (fun t=>t.isOwn ||t.isV)=ts.all (fun t=>t.isOwn ||t.isV):=by show(ts.map T.er).all _=_;rw[XI];congr 1;funext t;show(t.er.isOwn ||t.er.isV)=_;rw[dz,Ri]
  rw[this];split<;>rfl
 |_=>rfl
theorem Rt (x:DSl):lC x.er=(lC x).map (List.map fun r=>(r.1,erL r.2)):=by
 cases x with
 |tup rs =>
  simp only[Sl.er,lC];have a:∀l:List DT,(erL l).all (fun t=>t.isOwn ||t.isV)=l.all (fun t=>t.isOwn ||t.isV):=fun l=>by show(l.map T.er).all _=_;rw[XI];congr 1;funext t;show(t.er.isOwn ||t.er.isV)=_;rw[dz,Ri]
  have b:∀l:List DT,(erL l).all T.flat=l.all T.flat:=fun l=>by show(l.map T.er).all _=_;rw[XI];congr 1;funext t;exact xL t
  have:yL (rs.map fun r=>(r.1,erL r.2))=yL rs:=by
   unfold yL;rw[XI,XI];congr 1
   ·congr 1;funext r;exact a r.2
   ·congr 2;funext r;exact b r.2
  rw[this];split<;>rfl
 |_=>rfl
theorem Ro (x:DSl):kG x.er=(kG x).map T.er:=by
 cases x with
 |one u =>
  cases u with
  |v y=>rfl
  |any=>rfl
  |s k d z r=>simp[Sl.er,aH,kG]
 |_=>rfl
theorem zX (D:DSt)(pl:List (Nat×Nat)):∀(r:List (Nat×Operand))(ts:List DT),gE (fun q=>(erD D)[q]?) pl r (erL ts)=(gE (fun q=>D[q]?) pl r ts).map erL
 |[],ts=>rfl
 |(i,x)::r,ts=>by
  simp only[gE];split
  ·rename_i q;have e:((erD D)[q]?).bind kG=((D[q]?).bind kG).map T.er:=by
    rw[cl];cases D[q]? with
    |none=>rfl
    |some y=>simp only[WB,Wy,Ro]
   rw[e];cases pl[i]? with
   |none=>rfl
   |some os =>
    obtain⟨off,size⟩:=os;cases(D[q]?).bind kG with
    |none=>rfl
    |some t =>
     simp only[WB,W6];split
     ·have a:au (erL ts) off [t.er]=erL (au ts off [t]):=(m4 ts off [t]).symm;rw[a];exact zX D pl r _
     ·rfl
  ·rfl
theorem TX (w:World)(tab:Tab)(D:DSt)(o:Oper):tM mkU frU tab (fun q=>(erD D)[q]?) o=(tM mkD (frD w) tab (fun q=>D[q]?) o).map Sl.er:=by
 have b:∀u,((erD D)[u]?).bind iP=((D[u]?).bind iP).map erL:=fun u=>by
  rw[cl];cases D[u]? with
  |none=>rfl
  |some y=>simp only[WB,Wy,Rs]
 unfold tM;split
 ·split
  ·rename_i sz c j e u a d;simp only[b];cases tab.ti e with
   |none=>rfl
   |some k =>
    cases(D[u]?).bind iP with
    |none=>rfl
    |some us =>
     simp only[WB,W6];split
     ·simp only[WB,Sl.er,aH,WT,Xc]
     ·rfl
  ·rfl
 ·split
  ·rename_i ti pl i u r a f d;simp only[b];cases pl[i]? with
   |none=>rfl
   |some os =>
    obtain⟨off,size⟩:=os;cases(D[u]?).bind iP with
    |none=>rfl
    |some us =>
     simp only[WB,W6];split
     ·have g:au (ti.zero.map (T.inj mkU.nil)) off (erL us)=erL (au (ti.zero.map (T.inj mkD.nil)) off us):=by rw[rA,m4]
      rw[g,zX];cases gE (fun q=>D[q]?) pl r (au (ti.zero.map (T.inj mkD.nil)) off us)with
      |none=>rfl
      |some ts=>simp only[WB,Sl.er]
     ·rfl
  ·rfl
 ·split
  ·rename_i u h;show(((erD D)[u]?).bind lC).map Sl.tup=(((D[u]?).bind lC).map Sl.tup).map Sl.er;rw[cl];cases D[u]? with
   |none=>rfl
   |some y =>
    simp only[WB,Wy,Rt];cases lC y with
    |none=>rfl
    |some rs=>rfl
  ·rfl
 ·rfl
theorem wN {t:DT}(h:((t.dead p).isOwn ||(t.dead p).isV)=true):t.dead p=t:=by
 cases t with
 |v x=>rfl
 |any=>rfl
 |s k d z r =>
  cases k with
  |own=>rfl
  |far=>rfl
  |lent b c e =>
   simp only[T.dead]at h ⊢;split
   ·rename_i a;rw[Wz a]at h;simp[T.isOwn,T.isV]at h
   ·rfl
theorem K7 {a q:Nat}{x:DSl}(h:(kill1 D a)[q]?=some x)(hx:(iP x).isSome=true∨(kG x).isSome=true∨(lC x).isSome=true):D[q]?=some x:=by
 by_cases e:a<D.length
 ·rw[qc D a q e]at h;split at h
  ·cases h;rcases hx with hx|hx|hx<;>cases hx
  ·rw[WD]at h;obtain⟨y,j,m⟩:=h;rw[j];congr 1;subst m;cases y with
   |any=>rfl
   |one u =>
    simp only[Sl.clean,Sl.dead,Sl.gone]at hx ⊢;rw[wN];rcases hx with hx|hx|hx
    ·simp only[iP]at hx;split at hx
     ·rename_i n;simp[n]
     ·cases hx
    ·unfold kG at hx;split at hx
     ·rename_i v w;cases o:(u.dead (atH a))<;>simp_all[T.isV]
     ·cases hx
    ·cases hx
   |agg ts =>
    simp only[Sl.clean,Sl.dead,Sl.gone]at hx ⊢;rcases hx with hx|hx|hx
    ·simp only[iP]at hx;split at hx
     ·rename_i c;rw[WS]at c;have:=Xi (f:=T.dead (atH a)) (g:=id) (l:=ts) fun t d=>wN (c _ (Ye d))
      rw[YG]at this;rw[this]
     ·cases hx
    ·cases hx
    ·cases hx
   |box b ts=>simp only[Sl.clean,Sl.dead,Sl.gone]at hx;rcases hx with hx|hx|hx<;>cases hx
   |al=>simp only[Sl.clean,Sl.dead]at hx ⊢;split at hx<;>(rcases hx with hx|hx|hx<;>cases hx)
   |pe=>simp only[Sl.clean,Sl.dead]at hx ⊢;split at hx<;>(rcases hx with hx|hx|hx<;>cases hx)
   |pb=>simp only[Sl.clean,Sl.dead,Sl.gone]at hx ⊢;split at hx<;>(rcases hx with hx|hx|hx<;>cases hx)
   |clo=>simp only[Sl.clean,Sl.dead,Sl.gone]at hx ⊢;split at hx<;>(rcases hx with hx|hx|hx<;>cases hx)
   |im k b ts off =>
    cases k with
    |lent=>simp only[Sl.clean,Sl.dead]at hx ⊢;split at hx<;>(rcases hx with hx|hx|hx<;>cases hx)
    |_=>rcases hx with hx|hx|hx<;>cases hx
   |fni f caps=>rcases hx with hx|hx|hx<;>cases hx
   |tup rs =>
    simp only[Sl.clean,Sl.dead,Sl.gone]at hx ⊢;rcases hx with hx|hx|hx
    ·cases hx
    ·cases hx
    ·simp only[lC]at hx;split at hx
     ·rename_i c;unfold yL at c;rw[W0]at c;have:=Xi (f:=fun r:Bool×List DT=>(r.1,r.2.map (T.dead (atH a)))) (g:=id) (l:=rs) fun r p=>by
       have s:=WS.1 c.1 (r.1,r.2.map (T.dead (atH a))) (Ye p);have i:=Xi (f:=T.dead (atH a)) (g:=id) (l:=r.2) fun t d=>wN (WS.1 s _ (Ye d))
       rw[YG]at i;show(r.1,_)=r;rw[i]
      rw[YG]at this;rw[this]
     ·cases hx
 ·unfold kill1 at h;rw[WM e]at h;exact h
theorem nN:∀(l:List Nat){D:DSt}{q:Nat}{x:DSl},(killAll l D)[q]?=some x→(iP x).isSome=true∨(kG x).isSome=true∨(lC x).isSome=true→D[q]?=some x
 |[],D,q,x,h,_=>h
 |a::l,D,q,x,h,b=>by simp only[killAll,X3]at h;exact K7 (nN l h b) b
def T.lentTo {δ:Type}(t:Nat):T δ→Bool| .s (.lent h _ _) _ _ _=>h==t|_=>false
def eQ {δ β:Type}(t:Nat):Sl δ β→Bool| .al h _ _ _ _=>h==t| .pe h _ _ _ _=>h==t| .pb h _=>h==t| .clo _ hs=>hs.contains t| .im (.lent h _ _) _ _ _=>h==t| .one u=>u.lentTo t| .agg ts=>ts.any (T.lentTo t)| .box _ ts=>ts.any (T.lentTo t)| .tup rs=>rs.any fun r=>r.2.any (T.lentTo t)|_=>false
theorem UE {s:DSl}(h:cZ t s):eQ t s.er=true:=by
 have g:∀(ts:List DT),(∃u∈ts,∃c e d z r,u = .s (.lent t c e) d z r)→(erL ts).any (T.lentTo t)=true:=by rintro ts ⟨u,j,c,e,d,z,r,rfl⟩;rw[XX];exact⟨_,Ye j,by simp[aH,T.lentTo]⟩
 cases s with
 |any=>cases h
 |one u=>obtain⟨c,e,d,z,r,rfl⟩:=h;simp[Sl.er,aH,eQ,T.lentTo]
 |agg ts=>exact g ts h
 |box b ts=>exact g ts h
 |al a c st lo len=>simp only[cZ]at h;subst h;simp[Sl.er,eQ]
 |pe a c st i off=>simp only[cZ]at h;subst h;simp[Sl.er,eQ]
 |pb a off=>simp only[cZ]at h;subst h;simp[Sl.er,eQ]
 |im k b ts off =>
  cases k with
  |lent a c e=>simp only[cZ]at h;subst h;simp[Sl.er,eQ]
  |_=>cases h
 |fni f caps=>cases h
 |clo f hs =>have a:t∈hs:=h;simp[Sl.er,eQ,a]
 |tup rs =>obtain⟨r,l,j⟩:=h;simp only[Sl.er,eQ];rw[XX];exact⟨_,Ye l,g r.2 j⟩
theorem LA {s:DSl}(h:eQ t s.er=false):¬cZ t s:=fun q=>by rw[UE q]at h;cases h
theorem Be {u:Nat}(b:∀s∈D,¬cZ u s):bm u D=D.set u .any:=by
 have:(St.dead (atH u) (qH u) D).map (Sl.gone u)=D:=by
  simp only[St.dead,Xk]
  conv=>rhs;rw[←YG D]
  exact Xi fun s' a=>wL (b s' a)
 unfold bm;rw[this]
theorem Inv.stepT {P:Program}{tab:Tab}(ok:bz P tab)(I:Inv cx D [] a.tmps w){o:Oper}{u:Nat}(hd:o.dst=some t)(k:D[t]?=some .any)(v:Am.takeSlot o=some u)(z:∀s∈erD D,eQ u s=false){s:Sl Unit Unit}(e:tM mkU frU tab (fun q=>(Am.killAll l (erD D))[q]?) o=some s)(hs:eQ t s=false){K:Act→World→Prop}(A:∀D' m w',erD D'=((erD D).set u .any).set t s→(∃y,m=a.put o.dst y)→Inv cx D' [] m.tmps w'→K m w'):o.wp P a w K Q:=by
 have n:t<D.length:=by
  rcases WI t D.length with g|g
  ·exact g
  ·rw[WF g]at k;cases k
 rw[←lO,TX w]at e;obtain⟨B,C,rfl⟩:=WD.1 e;have F:tM mkD (frD w) tab (fun q=>D[q]?) o=some B:=SD (fun q x c d=>nN l c (.inr (.inl d))) (fun q x c d=>nN l c (.inl d)) (fun q x c d=>nN l c (.inr (.inr d))) C;have f:∀s∈D,¬cZ u s:=fun s hs=>LA (z s.er (Ye hs))
 have p:∀s∈D,¬cZ t s:=fun s' b=>by obtain⟨i,hi⟩:=WL b;exact I.any_refs k (I.val i s' hi) (I.kind s' b)
 have r:=JR hd v n (Be f) F;rw[Be f,oU (fun s' b=>by
  rcases XC b with h|rfl
  ·exact p s' h
  ·exact fun h=>h) (LA hs)]at r
 obtain⟨G,w',c,d⟩:=FU ok I r;unfold Oper.wp;rw[c];cases d with
 |value y h=>exact A _ _ _ (by rw[ic,ic];rfl) ⟨_,rfl⟩ h
 |skip j h=>rw[hd]at j;cases j
def tko (tk:Nat→Bool)(ops:Array Oper)(j:Nat):Option Nat:=if tk j=true then(ops[j]?).bind fun o=>if o.guard.isNone=true then takeSlot o else none else none
def jj (tk:Nat→Bool)(ops:Array Oper)(m:Nat):List Nat:=(List.range m).filterMap (tko tk ops)
def oq (tk:Nat→Bool)(ops:Array Oper)(m j:Nat):List Nat:=(List.range m).filterMap fun k=>if k=j then none else tko tk ops k
def kw (tk:Nat→Bool)(ops:Array Oper)(m:Nat)(anc:List (List Nat))(j:Nat):List Nat :=
 (List.range m).filterMap fun i=>match(ops[i]?).bind (·.dst)with
  |some t=>if((anc.getD j []).contains i && !((oq tk ops m j).contains t))=true then none else some t
  |none=>none
def JX (tk:Nat→Bool)(ops:Array Oper)(m:Nat)(anc:List (List Nat)):Bool :=
 decide (m≤ops.size) &&
 (List.range ops.size).all (fun j=>(bL ops j).all fun i=>decide (i<j)) &&
 (List.range m).all (fun j=>((ops[j]?).bind (·.dst)).isSome)&&decide ((dw ops m).Nodup) &&
 (List.range ops.size).all (fun j=>(anc.getD j []).all fun i=>(bL ops j).contains i ||(bL ops j).any fun k=>(anc.getD k []).contains i) &&
 (List.range ops.size).all (fun j=>decide (j<m)||(List.range j).all fun i=>(bL ops j).contains i ||(bL ops j).any fun k=>(anc.getD k []).contains i) &&
 (List.range m).all (fun k=>match tko tk ops k with
  |some u=>(List.range m).any (fun i=>(anc.getD k []).contains i&&decide ((ops[i]?).bind (·.dst)=some u)) && !((oq tk ops m k).contains u)
  |none=>true)
def evM (tab:Tab)(fns:FuncId→Option Func)(C:Sem1)(tk:Nat→Bool)(ops:Array Oper)(m:Nat)(anc:List (List Nat))(j:Nat)(U:US):Option (Sl Unit Unit):=
 match ops[j]? with
 |some o =>
  match o.dst with
  |some t =>
   (match tko tk ops j with
    |none=>KO ops (killAll (kw tk ops m anc j) U) o (stepV tab fns C (killAll (kw tk ops m anc j) U) o)
    |some _=>tM mkU frU tab (fun q=>(killAll (kw tk ops m anc j) U)[q]?) o).bind fun s=>if(t::jj tk ops m).all (fun v => !eQ v s)=true then some s else none
  |none=>none
 |none=>none
def pP (tk:Nat→Bool)(ops:Array Oper)(j:Nat)(U:US):US:=match tko tk ops j with|none=>U|some u=>U.set u .any
def stepM (tab:Tab)(fns:FuncId→Option Func)(C:Sem1)(tk:Nat→Bool)(ops:Array Oper)(m:Nat)(anc:List (List Nat))(U:US)(j:Nat):Option US :=
 match(ops[j]?).bind (·.dst)with
 |some t =>
  match U[t]? with
  |some .any=>(evM tab fns C tk ops m anc j U).map fun s=>(pP tk ops j U).set t s
  |_=>none
 |none=>none
def oW (tab:Tab)(fns:FuncId→Option Func)(C:Sem1)(tk:Nat→Bool)(ops:Array Oper)(m:Nat)(anc:List (List Nat)):Nat→Nat→US→Option US| 0,_,U=>some U|n+1,j,U=>(stepM tab fns C tk ops m anc U j).bind (oW tab fns C tk ops m anc n (j+1))
def runD (tab:Tab)(fns:FuncId→Option Func)(C:Sem1)(tk:Nat→Bool)(ops:Array Oper)(m:Nat)(anc:List (List Nat))(D:US):Option US :=if JX tk ops m anc&&(dw ops m).all (fun t=>decide (t<D.length))&&(killAll (dw ops m) D).all (fun s=>(jj tk ops m).all fun u => !eQ u s)then (oW tab fns C tk ops m anc m 0 (killAll (dw ops m) D)).bind (runOps tab fns C tk ops (ops.toList.drop m) m)else none
theorem Tu {j u:Nat}{o:Oper}(a:ops[j]?=some o)(h:tko tk ops j=some u):takeSlot o=some u∧o.guard=none:=by
 unfold tko at h;split at h
 ·rw[a,Wy]at h;split at h
  ·rename_i b;exact⟨h,Zr.1 b⟩
  ·cases h
 ·cases h
end Go.Proofs.YtlgddjncnedkgaaGreatDoor.Am
