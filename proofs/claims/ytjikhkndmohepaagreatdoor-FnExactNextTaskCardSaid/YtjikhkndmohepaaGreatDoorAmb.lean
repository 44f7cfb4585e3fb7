/- An abstract machine over trees, and that its steps are sound, a part. Conditions: none. -/
import Derived.Test.YtjikhkndmohepaaGreatDoorAma
import Derived.Laws.BytesArg
import Derived.Laws.IdiomStrings
import Derived.Orders
namespace Go.Proofs.YtjikhkndmohepaaGreatDoor.Am
open Go
set_option linter.unusedVariables false
set_option linter.unusedSimpArgs false
section
variable  {δ β : Type}
def xJ (M:Mk δ β)(D:St δ β)(b:Bool)(x:Operand):Option (Nat×List (List (T δ))×St δ β):=
 match b with
 |true =>
  match cellsCopy M D x with
  |some (false,[.s _ _ z2 a])=>if a.all (fun r=>r.all T.flat)=true then some (z2,a,D)else none
  |_=>none
 |false =>
  match cellsTake M D x with
  |some (false,[.s .own _ z2 a],c)=>some (z2,a,c)
  |_=>none
def mB (M:Mk δ β)(F:m5 δ β)(tab:Tab)(D:St δ β)(dst:Option Nat)(t t2:Nat)(s x:Operand):Option (St δ β):=
 match tab.ti t,tab.ti t2,dst,cellsTake M D s with
 |some ⟨_,_,_,.slice e⟩,some ⟨_,_,_,.slice _⟩,some c,some (false,[.s .own d z rows],D1)=>
  match tab.ti e with
  |some b =>
   match xJ M D1 (b.zero.all T.flat) x with
   |some (z2,a,f)=>
    if c<f.length∧b.size=z∧b.size≠0∧b.zero.length=b.size∧z2=z then
     if(rows.length+a.length)*b.bytes≤140737488355328∧rows.length+a.length≤4611686018427387904 then
      some (ba f (some c) (.one (.s .own (F.app d rows.length a.length e) z (rows++a))))
     else none
    else none
   |none=>none
  |none=>none
 |_,_,_,_=>none
end
theorem NW {t:DT}(h:t.flat=true):bl t=[]:=by
 cases t with
 |v x=>rfl
 |any=>rfl
 |s k d z r=>cases h
theorem JI {w:World}{t:DT}(h:t.flat=true):OwnT w t∧Holds w t:=by
 cases t with
 |v x=>exact⟨.v x,.v x⟩
 |any=>exact⟨.any,.any⟩
 |s k d z r=>cases h
theorem Ou {cx:Cx}{D r:DSt}{t:List (DT×Value)}{a:Act}{w:World}(I:Inv cx D t a.tmps w){y:Bool}{x:Operand}{z2:Nat}{c:List (List DT)}(e:xJ mkD D y x=some (z2,c,r)):
  ∃l k m,Inv cx r (m++t) a.tmps w∧VT (.s l k z2 c) (a.eval x)∧Holds w (.s l k z2 c)∧(∀(i:Nat)(row:List DT)(j:Nat)(u:DT),c[i]?=some row→row[j]?=some u→OwnT w u) ∧
   ∀b,(c.flatMap (fun x=>x.flatMap bl)).count b≤aV m b:=by
 unfold xJ at e;split at e
 ·split at e
  case h_2=>cases e
  rename_i l k n g o;split at e
  case isFalse=>cases e
  rename_i d;cases e;obtain⟨p,h,f⟩:=I.cellsCopy o;simp only[co,WC,W2]at f;subst f;refine⟨l,k,[],I,h.v.2 0 _ _ rfl rfl,h.holds _ (WP _),fun i row j u h1 h2=>(JI (Wt.1 (Wt.1 d row (Wd h1)) u (Wd h2))).1,fun b=>?_⟩;have:c.flatMap (fun x=>x.flatMap bl)=[]:=by rw[WB];intro row z;rw[WB];intro u A;exact NW (Wt.1 (Wt.1 d row z) u A)
  rw[this];simp
 ·split at e
  case h_2=>cases e
  rename_i k n g B o;cases e;obtain⟨p,m,C,h,f⟩:=I.cellsTakeP o;simp only[co,WC,W2]at f;subst f;have F:=h.own _ (WP _) rfl;refine⟨.own,k,m,C,h.v.2 0 _ _ rfl rfl,h.holds _ (WP _),fun i row j u h1 h2=>?_,fun b=>?_⟩
  ·cases F with
   |nil=>simp at h1
   |s _ _ _ _ _ _ _ _ _ _ _ _ _ q=>exact q i row j u h1 h2
  ·have:=h.cnt b;simp only[WA,X6,WG,ownR,T.isOwn,WN,cJ,WD]at this;omega
theorem Jf {P:Program}{tab:Tab}(ok:bz P tab){cx:Cx}{D D':DSt}{a:Act}{w:World}(I:Inv cx D [] a.tmps w){dst:Option Nat}{t t2 ty:Nat}{s x:Operand}
  (e:mB mkD (frD w) tab D dst t t2 s x=some D'):∃y w',(Builtin.append_ #[t,t2] ty #[a.eval s,a.eval x]).run P w = .ok y w'∧Inv cx D' [] (a.put dst y).tmps w':=by
 unfold mB at e;split at e
 case h_2=>cases e
 rename_i _ _ _ M _ _ _ el2 d' d z rows D1 Zv Zm hs;split at e
 case h_2=>cases e
 rename_i n Zw;split at e
 case h_2=>cases e
 rename_i z2 f D2 hx;split at e
 case isFalse=>cases e
 rename_i hc;split at e
 case isFalse=>cases e
 rename_i hn;cases e;obtain⟨hd,rfl,hz0,Zx,rfl⟩:=hc;obtain⟨Z2,h63⟩:=hn;obtain⟨ys,Za,I0,G,hv⟩:=I.cellsTake hs;obtain⟨k2,d2,P2,I1,Zy,Zn,S,Zb⟩:=Ou I0 hx;have K:=gk (Tab.ok ok Zv) rfl;have Zc:=gk (Tab.ok ok Zm) rfl;obtain⟨i,dd,zv,g1,g2',Zz,g4,g5,g2,g7,g3⟩:=gK (Tab.ok ok Zw);have hzs:zv.cells.size=n.size:=by rw[←Zx,g2];simp[ek]
 simp only[co,WC,W2]at hv;subst hv;have hy:VT (.s .own d n.size rows) (a.eval s):=G.v.2 0 _ _ rfl rfl;have hH:=G.holds _ (WP _);have hO:=G.own _ (WP _) rfl;have Zd:∀b,(bl (.s .own d n.size rows:DT)).count b≤aV Za b:=fun b=>by have:=G.cnt b;simpa[ownR,T.isOwn]using this
 generalize Zo:P2++Za=Pd at I1;have N:∀b,(bl (.s .own d n.size rows:DT)).count b+(f.flatMap (fun x=>x.flatMap bl)).count b≤aV Pd b:=fun b=>by have h1:=Zd b;have h2:=Zb b;rw[←Zo,iU,YB (aV P2 b)];exact Nat.add_le_add h1 h2
 obtain⟨C,R1,o1,c1⟩:=hH.cells (by omega);obtain⟨l,R2,o2,c2⟩:=Zn.cells (by omega);have O:∀(i:Nat)(row:List DT)(j:Nat)(u:DT),f[i]?=some row→row[j]?=some u→Holds w u:=fun i row j u h1 h2=>by
  cases Zn with
  |e=>simp at h1
  |s _ _ _ _ _ _ c' e' f' H _ _ Z3 U=>exact U i row j u h1 h2
 have V:a.eval s = .slice d.addr rows.length d.cap:=hy;have Zp:a.eval x = .slice d2.addr f.length d2.cap:=Zy;have hnl:l.length=f.length*i.size:=by rw[g4];exact R2.len
 have src:∀w0:World,(∀a,w0.cell? a=w.cell? a)→Src P i.size t2 (a.eval x) f.length l w0:=by
  intro w0 hw0;rw[Zp];rcases c2 with⟨rfl,rfl⟩|⟨q1,W,q3⟩
  ·cases J:d2.addr with
   |none=>exact Src.ofNil w0 Zc d2.cap
   |some ad=>exact Src.ofSlice w0 Zc ad 0 d2.cap [] (by simp) (fun j u h=>by simp at h) (fun u h=>by cases h)
  ·have J:d2.addr=some ⟨d2.b,d2.o,none⟩:=by rw[Dec.addr_none W,q1];rfl
   rw[J];exact Src.ofSlice w0 Zc _ _ _ l hnl (fun j u h=>by rw[hw0,Addr.add_lit];exact q3 j u h) o2
 have hS:=src w (fun _=>rfl);by_cases hroom:rows.length+f.length≤d.cap
 ·
  have X:(frD w).app d rows.length f.length M=d:=by simp only[frD];rw[Wa hroom]
  rw[X];cases hO with
  |nil _ _ F hsp hcap =>
   rw[hcap]at hroom;have h2:f=[]:=Xp.1 (by have h:=hroom;rw[Yn]at h;omega);subst h2;have Ze:l=[]:=Xp.1 (by rw[R2.len];simp);subst Ze;have J:d.addr=none:=by rw[Dec.addr_none hsp,F];rfl
   refine⟨a.eval s,w,?_,?_⟩
   ·rw[V,J,hcap];have hk:=hS.kind;have hc0:(Builtin.firstCells i.size 0 (a.eval x)).run P w = .ok #[] w:=by simpa using hS.cells
    rcases hk with⟨e',hk⟩|hk <;>
     simp[Builtin.append_,run_underlying K,run_underlying hk,sizeOf,typeInfo,g1,hS.len,hc0]
   ·have hG:Got cx D2 w Pd [(.s .own d n.size []:DT)] [a.eval s]:=⟨G.v,G.holds,G.own,fun u K=>by rw[Wk]at K;subst K;trivial,fun b=>by
     have h1:=G.cnt b;have h3:aV Pd b=aV P2 b+aV Za b:=by rw[←Zo,iU]
     omega⟩
    exact I1.putGot (g:=false) (s := .one (.s .own d n.size ([]++[]))) hG (by simp[co]) rfl (fun t' h=>by cases h;exact hd) rfl
  |s _ _ _ F hsp c ec lo hi hb hcap Z4 Zq Zf =>
   have J:d.addr=some ⟨d.b,d.o,none⟩:=by rw[Dec.addr_none hsp,F];rfl
   have hle:(rows.length+f.length)*n.size≤d.cap*n.size:=Xq _ hroom;rw[XA]at hle;have hnl':l.length=f.length*n.size:=R2.len;have Q:d.o+rows.length*n.size+l.length≤c.size:=by omega
   have r:=run_append_room_src (P:=P) w t t2 ty M i K g1 d.b d.o rows.length d.cap (a.eval x) f.length l hS hroom
    (fun j hj=>by rw[uc hb,g4,WR (by omega)];rfl)
    (fun j hj=>by have hx:=Zq (d.o+rows.length*n.size+j) (by omega) (by omega);rw[g4];simp only[World.frozen?,hb];simp;omega)
   rw[←J, ←V,g4]at r;obtain⟨f1,f2,f3,f4,f5,f6⟩:=kY d.b ec (lo,hi) l (d.o+rows.length*n.size) w c hb Q;generalize hw':w.setCells d.b (d.o+rows.length*n.size) l=w' at r f1 f2 f3 f4 f5 f6;have Z8:d.b∈bl (.s .own d n.size rows:DT):=lZ F;have hB:0<aV Pd d.b:=WQ (Wz.2 Z8) (by have:=N d.b;omega);have hone:(bl (.s .own d n.size rows:DT)).count d.b+(f.flatMap (fun x=>x.flatMap bl)).count d.b≤1:=W6 (N d.b) (by have:=I1.once d.b;omega);have Z5:∀(m:Nat)(A:List DT)(j:Nat)(u:DT),rows[m]?=some A→A[j]?=some u→d.b∉bl u:=by intro m A j u h1 h2 hm;have q1:=IP (k := .own) (d:=d) (z:=n.size) h1 h2 d.b;rw[F]at q1;simp only[WC,W2]at q1;have q3:0<(bl u).count d.b:=Wz.2 hm;simp at q1;omega
   have Y:∀(m:Nat)(A:List DT)(j:Nat)(u:DT),f[m]?=some A→A[j]?=some u→d.b∉bl u:=by intro m A j u h1 h2 hm;have q0:0<(bl (.s .own d n.size rows:DT)).count d.b:=Wz.2 Z8;have q1:0<(f.flatMap (fun x=>x.flatMap bl)).count d.b:=Wz.2 (Wq.2 ⟨A,Wd h1,Wq.2 ⟨u,Wd h2,hm⟩⟩);omega
   have gx:IN d.b w w':=⟨f4,f5,f6,by omega,fun b H _=>f2 b H⟩
   have Zg:d.o+rows.length*n.size+l.length≤c.toList.length:=by simpa using Q
   have Z:∀(m:Nat)(row:List DT),(rows++f)[m]?=some row→row.length=n.size:=fun m row h=>(R1.append R2).row m row h
   have Z0:∀(m:Nat)(row:List DT)(j:Nat)(u:DT),(rows++f)[m]?=some row→row[j]?=some u →
     (rows[m]?=some row∧m<rows.length)∨(f[m-rows.length]?=some row∧rows.length≤m):=by
    intro m row j u h1 h2;rcases Wl m rows.length with q|q
    ·rw[W1 q]at h1;exact .inl ⟨h1,q⟩
    ·rw[WZ q]at h1;exact .inr ⟨h1,q⟩
   have Zr:∀(m:Nat)(row:List DT)(j:Nat)(u:DT),(rows++f)[m]?=some row→row[j]?=some u→∃y,((aD c.toList (d.o+rows.length*n.size) l).toArray)[d.o+m*n.size+j]?=some y∧VT u y:=by
    intro m row j u h1 h2;have hjz:j<n.size:=by
     have:=Z m row h1;rcases Wl j row.length with q|q
     ·omega
     ·rw[Wh q]at h2;cases h2
    simp only[Yk];rcases Z0 m row j u h1 h2 with⟨q1,W⟩|⟨q1,W⟩
    ·have Zh:=pA W hjz;cases hH with
     |e=>simp at W
     |s _ _ _ _ _ _ c' e' f' H _ _ Z3 _ =>rw[hb]at H;cases H;obtain⟨y,y1,y2⟩:=Z3 m row j u q1 h2;refine⟨y,?_,y2⟩;rw[lF Zg (by omega)];simpa using y1
    ·obtain⟨y,y1,y2⟩:=R2.val _ row j u q1 h2;refine⟨y,?_,y2⟩;have e1:(m-rows.length)*n.size=m*n.size-rows.length*n.size:=Nat.sub_mul _ _ _;have e2:rows.length*n.size≤m*n.size:=Xq _ W;have Zh:m*n.size-rows.length*n.size+j<l.length:=by
      rcases Wl ((m-rows.length)*n.size+j) l.length with p|p
      ·omega
      ·rw[Wh p]at y1;cases y1
     rw[eP Zg,Wo (by omega),Wa (by omega)];rw[show d.o+m*n.size+j-(d.o+rows.length*n.size)=(m-rows.length)*n.size+j by omega];exact y1
   have B:∀u:DT,d.b∉bl u→∀b∈bl u,b<w.heap.size→w'.heap[b]?=w.heap[b]?:=fun u K b H _=>f2 b (fun e=>K (e ▸ H))
   have L:∀(m:Nat)(row:List DT)(j:Nat)(u:DT),(rows++f)[m]?=some row→row[j]?=some u→Holds w' u∧OwnT w' u:=by
    intro m row j u h1 h2;rcases Z0 m row j u h1 h2 with⟨q1,W⟩|⟨q1,W⟩
    ·have Z1:=Z5 m row j u q1 h2;refine⟨?_,(Zf m row j u q1 h2).frame (B u Z1)⟩;cases hH with
     |e=>simp at W
     |s _ _ _ _ _ _ c' e' f' H _ _ Z3 U=>exact(U m row j u q1 h2).frame (B u Z1)
    ·have Z1:=Y _ row j u q1 h2;exact⟨(O _ row j u q1 h2).frame (B u Z1),(S _ row j u q1 h2).frame (B u Z1)⟩
   have Z6:Holds w' (.s .own d n.size (rows++f)):= .s _ _ _ _ F hsp _ ec (lo,hi) f1 (by simpa using hroom) Z Zr (fun m row j u h1 h2=>(L m row j u h1 h2).1);have Z7:OwnT w' (.s .own d n.size (rows++f)):= .s _ _ _ F hsp _ ec lo hi f1 (by simpa using hroom) (by simp only[YV];rw[lE Zg];simpa using Z4) Zq (fun m row j u h1 h2=>(L m row j u h1 h2).2);have Zs:VT (.s .own d n.size (rows++f)) (.slice d.addr (rows.length+f.length) d.cap):=by simp[VT]
   have Zi:∀b,(bl (.s .own d n.size (rows++f):DT)).count b≤aV Pd b:=fun b=>by have:=N b;rw[cJ,WD]at this ⊢;rw[Xt,WD, ←Xz];exact this
   have I2:=I1.pendWrite (P:=Pd) hB gx Zs Z6 Z7 rfl Zi;refine⟨_,w',r,?_⟩;refine I2.putGot (g:=false) (ts:=[.s .own d n.size (rows++f)]) (ys:=[.slice d.addr (rows.length+f.length) d.cap]) ⟨.one Zs,fun u K=>?_,fun u K _=>?_,fun u K=>?_,fun b=>?_⟩ (by simp[co]) rfl (fun t' h=>by cases h;exact hd) rfl
   ·rw[Wk]at K;subst K;exact Z6
   ·rw[Wk]at K;subst K;exact Z7
   ·rw[Wk]at K;subst K;trivial
   ·simp[aV]
 ·
  have X:(frD w).app d rows.length f.length M=⟨w.heap.size,0,grownCap w (rows.length+f.length) d.cap M,false,none⟩:=by simp only[frD];rw[Wo hroom]
  rw[X];have Q:=growslice_fits (need:=rows.length+f.length) (old:=d.cap) (bytes:=n.bytes) (by omega) Z2;have Zt:(Builtin.firstCells i.size rows.length (.slice d.addr rows.length d.cap)).run P w.drew = .ok C.toArray w.drew:=by
   rcases c1 with⟨rfl,rfl⟩|⟨q1,W,q3⟩
   ·cases J:d.addr with
    |none=>exact run_firstCells_none w.drew _ _ _ _
    |some ad=>exact run_firstCells_some w.drew i.size 0 ad 0 d.cap [] (by simp) (fun j u h=>by simp at h)
   ·have J:d.addr=some ⟨d.b,d.o,none⟩:=by rw[Dec.addr_none W,q1];rfl
    rw[J];exact run_firstCells_some w.drew i.size rows.length _ _ _ C (by rw[g4];exact R1.len) (fun j u h=>by rw[Addr.add_lit];exact q3 j u h)
  have r:=run_append_grow_src (P:=P) w t t2 ty M i zv K g1 Zz d.addr rows.length d.cap C Zt (a.eval x) f.length l hS (by omega) (by omega) (by rw[g5];exact Q);rw[←V]at r;have Zj:=grownCap_ge w (rows.length+f.length) d.cap M;generalize hgc:grownCap w (rows.length+f.length) d.cap M=gc at r Zj;have R:=R1.append R2;generalize Zu:(C++l).toArray++Builtin.zeroCells zv.cells (gc-(rows.length+f.length))=cells at r;have Zk:cells.size=gc*n.size:=by rw[←Zu,Array.size_append,size_zeroCells,hzs,YV,R.len, ←XA];congr 1;simp;omega
  have g:=(Grew.drew w).trans (Grew.alloc w.drew (.cells cells M));have Z9:(w.drew.alloc (.cells cells M)).heap[w.heap.size]?=some (.cells cells M (0,0)):=by show(w.heap.push _)[w.heap.size]?=_;simp
  have Zl:∀(j:Nat)(u:Value),(C++l)[j]?=some u→cells[j]?=some u:=by
   intro j u h;have Zh:j<(C++l).length:=by
    rcases Wl j (C++l).length with q|q
    ·exact q
    ·rw[Wh q]at h;cases h
   rw[←Zu,XQ (by simpa using Zh)];simpa using h
  have L:∀(m:Nat)(row:List DT)(j:Nat)(u:DT),(rows++f)[m]?=some row→row[j]?=some u→Holds (w.drew.alloc (.cells cells M)) u∧OwnT (w.drew.alloc (.cells cells M)) u:=by
   intro m row j u h1 h2;rcases Wl m rows.length with q|q
   ·rw[W1 q]at h1;refine⟨?_,?_⟩
    ·cases hH with
     |e=>simp at q
     |s _ _ _ _ _ _ c' e' f' H _ _ Z3 U=>exact(U m row j u h1 h2).frame fun b _ hb=>g.same b hb
    ·cases hO with
     |nil=>simp at q
     |s _ _ _ _ _ _ _ _ _ _ _ _ _ Zf=>exact(Zf m row j u h1 h2).frame fun b _ hb=>g.same b hb
   ·rw[WZ q]at h1;exact⟨(O _ row j u h1 h2).frame fun b _ hb=>g.same b hb,(S _ row j u h1 h2).frame fun b _ hb=>g.same b hb⟩
  have Z6:Holds (w.drew.alloc (.cells cells M)) (.s .own ⟨w.heap.size,0,gc,false,none⟩ n.size (rows++f)):=by refine .s _ _ _ _ rfl rfl _ M (0,0) Z9 (by simpa using Zj) R.row (fun m row j u h1 h2=>?_) (fun m row j u h1 h2=>(L m row j u h1 h2).1);obtain⟨y,y1,y2⟩:=R.val m row j u h1 h2;exact⟨y,by simpa using Zl _ _ y1,y2⟩
  have Z7:OwnT (w.drew.alloc (.cells cells M)) (.s .own ⟨w.heap.size,0,gc,false,none⟩ n.size (rows++f)):=
   .s _ _ _ rfl rfl _ M 0 0 Z9 (by simpa using Zj) (by simp[Zk]) (fun x _ _ h=>by omega) (fun m row j u h1 h2=>(L m row j u h1 h2).2)
  refine⟨_,_,r,I1.newRows (P:=Pd) g (by simp) (d:=⟨w.heap.size,0,gc,false,none⟩) ⟨rfl,rfl⟩ Z6 Z7 (fun b=>?_) hd (by simp[VT,Dec.addr])⟩;rw[Xt,WD];have:=N b;rw[cJ,WD]at this;exact W6 (Nat.add_le_add_right (Nat.le_add_left _ _) _) this
section
variable  {δ β : Type}
def eR:List (List (T δ))→Option (List Int)|[]=>some []|[.v (.int .u8 n)]::r=>(eR r).map fun l=>n::l|_::_=>none
def mC (M:Mk δ β)(tab:Tab)(D:St δ β)(a dst:Nat)(x:Operand):Option (List (List (T δ))):=
 match tab.ti a,tab.ti dst,cellsCopy M D x with
 |some ⟨_,_,_,.slice e⟩,some ⟨_,_,_,.str⟩,some (false,[.s _ _ 1 rows])=>match tab.ti e with|some ⟨_,_,_,.int .u8⟩=>some rows|_=>none
 |_,_,_=>none
end
theorem Cj:∀{rows:List (List DT)}{xs:List Int},eR rows=some xs→rows=xs.map fun n=>[.v (.int .u8 n)]
 |[],xs,h=>by cases h;rfl
 |r::rs,xs,h=>by
  unfold eR at h;split at h
  ·rename_i a;cases a
  ·rename_i n c a;cases a;rw[We]at h;obtain⟨l,b,rfl⟩:=h;rw[Cj b];rfl
  ·cases h
theorem Fg {P:Program}{tab:Tab}(ok:bz P tab){cx:Cx}{D:DSt}{a:Act}{w:World}(I:Inv cx D [] a.tmps w){c dst:Nat}{x:Operand}{rows:List (List DT)}{xs:List Int}
  (e:mC mkD tab D c dst x=some rows) (B:eR rows=some xs):(convert c dst (a.eval x)).run P w = .ok (.string (strOfNums xs)) w:=by
 unfold mC at e;split at e
 case h_2=>cases e
 rename_i _ _ _ q _ _ _ k d r hs hd C;split at e
 case h_2=>cases e
 rename_i F;cases e;obtain⟨ys,G,hv⟩:=I.cellsCopy C;simp only[co,WC,W2]at hv;subst hv;have s:=gk (Tab.ok ok hs) rfl;have f:=xu (Tab.ok ok hd) rfl;have l:=E2 (Tab.ok ok F) rfl;have H:VT (.s k d 1 rows) (a.eval x):=G.v.2 0 _ _ rfl rfl;have J:=G.holds _ (WP _);have u:=Cj B;obtain⟨cs,R,O,K⟩:=J.cells (by omega);have g:rows.length=xs.length:=by rw[u];simp
 have m:a.eval x = .slice d.addr rows.length d.cap:=H;rw[m];rcases K with⟨z,Q⟩|⟨q1,L,M⟩
 ·have t:xs=[]:=Xp.1 (by rw[←g,z];rfl);subst t;rw[z];cases n:d.addr with
  |none=>exact run_convert_bytes_nil w c q s l 0 d.cap dst f
  |some ad =>
   have hsp:(convert c dst (.slice (some ad) 0 d.cap)).run P w = .ok (.string (strOfNums [])) w:=by obtain⟨b,o,sp⟩:=ad;rw[run_convert_bytes_string w c dst q _ 0 d.cap s l f];rw[run_bytesToString w ⟨b,o,sp⟩ 0 d.cap [] (run_loadCells_list w ⟨b,o,sp⟩ [] (fun j v h=>by simp at h))];rfl
   exact hsp
 ·have n:d.addr=some ⟨d.b,d.o,none⟩:=by rw[Dec.addr_none L,q1];rfl
  rw[n];refine run_convert_bytes_arg w c q s l d.b d.o rows.length d.cap xs g.symm (fun i hi=>?_) dst f;have p:rows[i]?=some [.v (.int .u8 (xs.getD i 0))]:=by rw[u,Wr,List.getD_eq_getElem?_getD,Wg (by omega)];rfl
  obtain⟨y,A,N⟩:=R.val i _ 0 _ p rfl;rw[show y=_ from N.1]at A;have:=M (i*1+0) _ A;rw[show d.o+(i*1+0)=d.o+i by omega]at this;exact this
section
variable  {δ β : Type}
def jZ (s:Y9):List (List (T δ)):=s.data.toList.map fun b=>[.v (.int .u8 (b.toNat:Int))]
def gW (M:Mk δ β)(F:m5 δ β)(tab:Tab)(D:St δ β)(dst:Option Nat)(a t:Nat)(x:Operand):Option (St δ β):=
 match tab.ti a,tab.ti t,dst,opd M.nil D x with
 |some ⟨_,_,_,.str⟩,some ⟨_,_,_,.slice e⟩,some d,some (.one (.v (.string s)))=>
  match tab.ti e with
  |some ⟨1,_,_,.int .u8⟩=>if d<D.length then some (ba D (some d) (.one (.s .own (F.str s.size e) 1 (jZ s))))else none
  |_=>none
 |_,_,_,_=>none
end
theorem Gw {P:Program}{tab:Tab}(ok:bz P tab){cx:Cx}{D D':DSt}{a:Act}{w:World}(I:Inv cx D [] a.tmps w){dst:Option Nat}{v t:Nat}{x:Operand}
  (e:gW mkD (frD w) tab D dst v t x=some D'):∃y w',(convert v t (a.eval x)).run P w = .ok y w'∧Inv cx D' [] (a.put dst y).tmps w':=by
 unfold gW at e;split at e
 case h_2=>cases e
 rename_i _ _ _ _ _ _ l d s hs H J;split at e
 case h_2=>cases e
 rename_i K;split at e
 case isFalse=>cases e
 rename_i hd;cases e;have L:=xu (Tab.ok ok hs) rfl;have B:=gk (Tab.ok ok H) rfl;have C:=E2 (Tab.ok ok K) rfl;have F:a.eval x = .string s:=(I.opd J).val.1;have f:=run_bytes_of_string (P:=P) w v t l s L B C;rw[←F]at f;have z:=grownCap_ge w s.size 0 l;have M:(frD w).str s.size l=⟨w.heap.size,0,grownCap w s.size 0 l,false,none⟩:=rfl;rw[M];generalize grownCap w s.size 0 l=p at f z;have m:(bytesRow s p).size=p:=by unfold bytesRow;have:s.data.size=s.size:=rfl;simp[this];omega
 have A:∀j (G:j<s.data.size),(bytesRow s p)[j]?=some (.int .u8 (s.data[j].toNat:Int)):=fun j G=>bytesRow_at s p j G
 generalize bytesRow s p=cells at f m A;have g:=(Grew.drew w).trans (Grew.alloc w.drew (.cells cells l (cells.size,cells.size+1)));have r:(w.drew.alloc (.cells cells l (cells.size,cells.size+1))).heap[w.heap.size]?=some (.cells cells l (cells.size,cells.size+1)):=by show(w.heap.push _)[w.heap.size]?=_;simp
 have c:∀(i:Nat)(row:List DT),(jZ s:List (List DT))[i]?=some row→∃h:i<s.data.size,row=[.v (.int .u8 (s.data[i].toNat:Int))]:=by
  intro i row h;unfold jZ at h;rw[Wr,We]at h;obtain⟨b,n,rfl⟩:=h;have hi:i<s.data.size:=by
   rcases Wl i s.data.toList.length with q|q
   ·simpa using q
   ·rw[Wh q]at n;cases n
  refine⟨hi,?_⟩;rw[Wg (by simpa using hi)]at n;cases n;simp
 have o:(jZ s:List (List DT)).length=s.size:=by unfold jZ;simp
 have N:Holds (w.drew.alloc (.cells cells l (cells.size,cells.size+1))) (.s .own ⟨w.heap.size,0,p,false,none⟩ 1 (jZ s)):=by
  refine .s _ _ _ _ rfl rfl _ l _ r (by rw[o];exact z) (fun i row h=>?_) (fun i row j u n k=>?_) (fun i row j u n k=>?_)
  ·obtain⟨_,rfl⟩:=c i row h;rfl
  ·obtain⟨hi,rfl⟩:=c i row n;cases j with
   |zero =>simp only[W7,WO]at k;subst k;exact⟨_,by simpa using A i hi,rfl,rfl⟩
   |succ j=>simp at k
  ·obtain⟨hi,rfl⟩:=c i row n;cases j with
   |zero=>simp only[W7,WO]at k;subst k;exact .v _
   |succ j=>simp at k
 have O:OwnT (w.drew.alloc (.cells cells l (cells.size,cells.size+1))) (.s .own ⟨w.heap.size,0,p,false,none⟩ 1 (jZ s)):=by
  refine .s _ _ _ rfl rfl _ l _ _ r (by rw[o];exact z) (by simp[m]) (fun q n k h=>by simp at k;omega) (fun i row j u n k=>?_);obtain⟨hi,rfl⟩:=c i row n;cases j with
  |zero=>simp only[W7,WO]at k;subst k;exact .v _
  |succ j=>simp at k
 refine⟨_,_,f,I.newRows (P:=[]) g (by simp) (d:=⟨w.heap.size,0,p,false,none⟩) ⟨rfl,rfl⟩ N O (fun b=>?_) hd (by simp[VT,Dec.addr,o])⟩;have:(jZ s:List (List DT)).flatMap (fun x=>x.flatMap Am.bl)=[]:=by rw[WB];intro row Q;obtain⟨i,hi⟩:=Wm Q;obtain⟨_,rfl⟩:=c i row hi;rfl
 rw[this];simp
section
variable  {δ β : Type}
def nQ (D:St δ β)(x:Operand)(dst:Option Nat):Option (St δ β):=
 match x,dst with
 | .tmp t,some d =>
  match D[t]? with
  |some (.tup rs)=>if d<D.length∧(rs.all fun r=>r.2.all T.noLent)=true then some (ba (D.set t .any) (some d) (.tup rs))else none
  |_=>none
 |_,_=>none
end
theorem G7:∀(us:List DT),(∀u∈us,∃v,VT u v)→∃a:List Value,us.length=a.length∧∀p∈us.zip a,p.1∈us∧VT p.1 p.2
 |[],_=>⟨[],rfl,fun p hp=>by cases hp⟩
 |u::us,h=>by
  obtain⟨v,hv⟩:=h u (by simp);obtain⟨a,c,b⟩:=G7 us fun u d=>h u (by simp[d])
  refine⟨v::a,by simp[c],fun p hp=>?_⟩;rw[List.zip_cons_cons]at hp;rcases WE.1 hp with rfl|hp
  ·exact⟨by simp,hv⟩
  ·exact⟨by simp[(b p hp).1],(b p hp).2⟩
theorem IL {cx:Cx}{D D':DSt}{a:Act}{w:World}(I:Inv cx D [] a.tmps w){dst:Option Nat}{x:Operand}(e:nQ D x dst=some D'):Inv cx D' [] (a.put dst (a.eval x)).tmps w:=by
 unfold nQ at e;split at e
 case h_2=>cases e
 rename_i t d;split at e
 case h_2=>cases e
 rename_i rs hD;split at e
 case isFalse=>cases e
 rename_i hc;cases e;obtain⟨hd,C⟩:=hc;have g:=Wd hD;have n:=I.val t _ hD;obtain⟨N,R,o,f⟩:=n;have F:=I.mem _ g;have l:∀u∈aj (.tup rs:DSl),bK cx D u:=I.kind _ g;have O:∀u∈aj (.tup rs:DSl),u.noLent=true:=by intro u c;obtain⟨r,G,c⟩:=Wq.1 c;exact Wt.1 (Wt.1 C r G) u c
 have hv:∀u∈aj (.tup rs:DSl),∃v,VT u v:=by
  intro u c;obtain⟨r,G,c⟩:=Wq.1 c;obtain⟨j,H⟩:=Wm G;have S:j<rs.length:=by
   rcases Wl j rs.length with q|q
   ·exact q
   ·rw[Wh q]at H;cases H
  have m:=f j r N.toList[j] H (Wg (by omega));unfold VPart at m;split at m
  ·obtain⟨cs,i,B,U⟩:=m;obtain⟨k,l⟩:=Wm c;have V:k<r.2.length:=by
    rcases Wl k r.2.length with q|q
    ·exact q
    ·rw[Wh q]at l;cases l
   exact⟨_,U k u _ l (Wg (by omega))⟩
  ·obtain⟨t',i,B⟩:=m;rw[i,Wk]at c;subst c;exact⟨_,B⟩
 obtain⟨J,W,hz⟩:=G7 _ hv;have y:=oZ _ J W;have hb:∀b,((aj (.tup rs:DSl)).flatMap ownR).count b=(ownBl (.tup rs:DSl)).count b:=by intro b;show((rs.flatMap (·.2)).flatMap ownR).count b=(rs.flatMap fun r=>r.2.flatMap ownR).count b;rw[List.flatMap_assoc]
 have X:=I.swap (Q:=(aj (.tup rs:DSl)).zip J) (s := .any) hD (fun s' A=>by obtain⟨u,c⟩:=Wm A;exact I.tup_refs hD (I.val u s' c) (I.kind s' A)) (fun h=>h) trivial
  ⟨fun u c=>(by cases c),fun u c=>(by cases c),trivial⟩ (fun u c=>(by cases c))
  (fun p m=>by
   obtain⟨i,B⟩:=hz p m;refine⟨B,F.1 _ i,F.2.1 _ i,fun Y x K=>?_⟩;have L:=l _ i;have M:=O _ i;generalize p.1=u at *;cases u with
   |v x=>simp[bl]at K
   |any=>simp[bl]at K
   |s k d z r=>cases k<;>first|exact L x K|(cases M;done)|(cases Y;done))
  (fun b=>by rw[y b,hb b,cO];show([]:List Nat).count b+_≤_;simp)
 exact Inv.put (P:=(aj (.tup rs:DSl)).zip J) (Q:=[]) (by rw[WG];exact X) (by simpa using hd) (s := .tup rs) ⟨N,R,o,f⟩ F (fun u c=>uj (O u c) (l u c)) (fun b=>by rw[y b,hb b];exact WU _)
section
variable  {δ β : Type}
def kr (M:Mk δ β)(F:m5 δ β)(tab:Tab)(D:St δ β)(dst:Option Nat)(t len:Nat)(a:List (Nat×Operand)):Option (St δ β):=
 match tab.ti t,dst,a with
 |some ⟨_,_,_,.slice e⟩,some d,[(0,x)]=>
  match tab.ti e,cellsTake M D x with
  |some b,some (_,us,D1)=>
   if len=1∧d<D1.length∧b.size≠0∧b.zero.length=b.size∧b.size≤2 ^ 24∧us.length=b.size∧us.all (fun u=>u.isOwn ||u.flat)=true then
    some (ba D1 (some d) (.one (.s .own (F.row 1) b.size [us])))
   else none
  |_,_=>none
 |_,_,_=>none
def pi (M:Mk δ β)(tab:Tab)(D:St δ β)(t:Nat)(p:Operand)(z:Nat):Option (St δ β):=
 match tab.ti t with
 |some ti=>if ti.size=1 then(opd M.nil D p).bind fun p=>ju D p [.s .own M.nil z []]else none
 |none=>none
end
theorem M1 {w:World}{u:DT}(h:(u.isOwn ||u.flat)=true)(b:u.isOwn=true→OwnT w u):OwnT w u∧ownR u=bl u:=by
 cases a:u.isOwn with
 |true=>exact⟨b a,by simp[ownR,a]⟩
 |false =>rw[a,YR]at h;exact⟨(JI h).1,by simp[ownR,a,NW h]⟩
theorem BG {P:Program}{tab:Tab}(ok:bz P tab){cx:Cx}{D D':DSt}{a:Act}{w:World}(I:Inv cx D [] a.tmps w){dst:Option Nat}{t len:Nat}{f:Array (Nat×Operand)}
  (e:kr mkD (frD w) tab D dst t len f.toList=some D'):∃y w',(Instr.buildSlice t len (f.map fun(i,x)=>(i,a.eval x))).run P w = .ok y w'∧Inv cx D' [] (a.put dst y).tmps w':=by
 unfold kr at e;split at e
 case h_2=>cases e
 rename_i sz Z ze l d x K m;split at e
 case h_2=>cases e
 rename_i c gg us D1 A hx;split at e
 case isFalse=>cases e
 rename_i hc;cases e;obtain⟨rfl,hd,L,M,Q,B,C⟩:=hc;obtain⟨ys,Pd,I1,G,hv⟩:=I.cellsTake hx;have s:=gk (Tab.ok ok K) rfl;obtain⟨z,g1,S,g3⟩:=xv (Tab.ok ok A) w;have hs:=md (Tab.ok ok A) w;have U:=lr (P:=P) (t:=l) (w:=w) (cx:=cx) (D:=D) (ys:=z.cells.toList) g3;rw[←S]at U;have F:z.cells.size=c.size:=by rw[←M,S];simp[ek]
 have V:=RowsAre.init U.v (by omega) 1;rw[F]at V;have n:=mD G hv;obtain⟨N,R⟩:=V.set (i:=0) (by simp) G.v B;have e2:=G.v.1;have r:(List.replicate 1 (c.zero.map (T.inj nilD))).set 0 us=[us]:=rfl;rw[r]at R;have f1:Instr.fill (fun i=>some (i*c.size,c.size)) ((Array.range (1*c.size)).map fun i=>z.cells[i % c.size]!) [(0,a.eval x)]=some (aD ((Array.range (1*c.size)).map fun i=>z.cells[i % c.size]!).toList (0*c.size) ys).toArray:=by simp only[Instr.fill,n];rw[Wo (by simp;omega)];have h3:=iu ys.toArray (0*c.size) ((Array.range (1*c.size)).map fun i=>z.cells[i % c.size]!) (by simpa using N);rw[h3]
 generalize W:aD ((Array.range (1*c.size)).map fun i=>z.cells[i % c.size]!).toList (0*c.size) ys=k at *;have H:(Instr.buildSlice t 1 (f.map fun(i,x)=>(i,a.eval x))).run P w = .ok (.slice (some ⟨w.heap.size,0,none⟩) 1 1) (w.alloc (.cells k.toArray l)):=by
  have O:Instr.fill (fun i=>some (i*c.size,c.size)) ((Array.range (1*c.size)).map fun i=>z.cells[i % c.size]!) (f.toList.map fun p=>(p.1,a.eval p.2))=some k.toArray:=by rw[m];exact f1
  simp only[Instr.buildSlice,run_underlying s,Sem.run_bind,Result.andThen_ok,hs];rw[Wo (by omega)];simp[g1,F];have J:=O;rw[Nat.one_mul]at J;simp[J,L,kz]
 have g:=Grew.alloc w (.cells k.toArray l);have o:(w.alloc (.cells k.toArray l)).heap[w.heap.size]?=some (.cells k.toArray l (0,0)):=by show(w.heap.push _)[w.heap.size]?=_;simp
 have q:∀(i:Nat)(row:List DT)(j:Nat)(u:DT),[us][i]?=some row→row[j]?=some u→u∈us:=fun i row j u hi hj=>by
  have:row=us:=by have:=Wd hi;simpa using this
  subst this;exact Wd hj
 have X:∀u∈us,OwnT w u∧ownR u=bl u:=fun u s=>M1 (Wt.1 C u s) (G.own u s)
 have hH:Holds (w.alloc (.cells k.toArray l)) (.s .own ((frD w).row 1) c.size [us]):=by refine .s _ _ _ _ rfl rfl _ l (0,0) o (by simp[frD]) R.row (fun i row j t hi hj=>?_) (fun i row j t hi hj=>(G.holds t (q i row j t hi hj)).frame fun b _ hb=>g.same b hb);obtain⟨y,y1,y2⟩:=R.val i row j t hi hj;exact⟨y,by simpa[frD]using y1,y2⟩
 have hO:OwnT (w.alloc (.cells k.toArray l)) (.s .own ((frD w).row 1) c.size [us]):=by refine .s _ _ _ rfl rfl _ l 0 0 o (by simp[frD]) (by simp[frD,R.len]) (fun x _ _ h=>by omega) (fun i row j t hi hj=>?_);exact((X t (q i row j t hi hj)).1).frame fun b _ hb=>g.same b hb
 refine⟨_,_,H,I1.newRows (P:=Pd) g (by simp) (d:=(frD w).row 1) ⟨rfl,rfl⟩ hH hO (fun b=>?_) hd (by simp[VT,Dec.addr,frD])⟩;have Y:=G.cnt b;have h2:us.flatMap ownR=us.flatMap bl:=by rw[Yw,Yw,WT fun u s=>(X u s).2]
 rw[h2]at Y;simpa using Y
theorem Gv {P:Program}{tab:Tab}(ok:bz P tab){cx:Cx}{D D':DSt}{a:Act}{w:World}(I:Inv cx D [] a.tmps w){t:Nat}{p:Operand}{z:Nat}
  (e:pi mkD tab D t p z=some D'):∃w',(Instr.storeAt t (a.eval p) (.slice none 0 0)).run P w = .ok () w'∧Inv cx D' [] a.tmps w':=by
 unfold pi at e;split at e
 case h_2=>cases e
 rename_i ti d;split at e
 case isFalse=>cases e
 rename_i f;rw[Wb]at e;obtain⟨i,h,e⟩:=e;refine Hi (g:=false) ok I d (ys:=[.slice none 0 0]) ⟨.one ?_,fun u c=>?_,fun u c _=>?_,fun u c=>?_,fun b=>?_⟩ (by simp[co]) (by simp[f]) h e
 ·simp[VT,Dec.addr,mkD,nilD]
 ·rw[Wk]at c;subst c;exact .e _ _ _
 ·rw[Wk]at c;subst c;exact .nil _ _ rfl rfl rfl
 ·rw[Wk]at c;subst c;trivial
 ·simp[ownR,T.isOwn,cJ,mkD,nilD]
section
variable  {δ β : Type}
def pL (M:Mk δ β)(tab:Tab)(D:St δ β)(dst:Option Nat)(t:Nat)(a:List (Nat×Operand)):Option (St δ β):=
 match tab.ti t,tab.pl t,a,dst with
 |some ti,some pl,(i,x)::r,some d =>
  match pl[i]?,cellsTake M D x with
  |some (off,size),some (_,us,D1)=>
   if us.length=size∧off+us.length≤(ti.zero.map (T.inj M.nil)).length∧d<D1.length then
    (cz M D1 pl r (aD (ti.zero.map (T.inj M.nil)) off us)).map fun ts=>ba D1 (some d) (.agg ts)
   else none
  |_,_=>none
 |_,_,_,_=>none
end
theorem Got.spliceP {cx:Cx}{D:DSt}{w:World}{P Q:List (DT×Value)}{ts us:List DT}{xs ys:List Value}(G:Got cx D w P ts xs)(H:Got cx D w Q us ys){off:Nat}(c:off+us.length≤ts.length):
  Got cx D w (P++Q) (aD ts off us) (aD xs off ys):=by
 refine⟨G.v.splice H.v c,fun t a=>?_,fun t a=>?_,fun t a=>?_,fun b=>?_⟩
 ·rcases gR a with h|h
  ·exact G.holds t h
  ·exact H.holds t h
 ·rcases gR a with h|h
  ·exact G.own t h
  ·exact H.own t h
 ·rcases gR a with h|h
  ·exact G.kind t h
  ·exact H.kind t h
 ·have d:=pQ ownR ts us off b;have e:=G.cnt b;have f:=H.cnt b;rw[iU];omega
theorem kC {cx:Cx}{D:DSt}{h P:List (DT×Value)}{a:Act}{w:World}(I:Inv cx D h a.tmps w)(pl:List (Nat×Nat)):∀(b:List (Nat×Operand)){ts ts':List DT}{xs:List Value},Got cx D w P ts xs →
  cz mkD D pl b ts=some ts'→∃ys,Instr.fill (pl.toArray[·]?) xs.toArray (b.map fun p=>(p.1,a.eval p.2))=some ys.toArray∧Got cx D w P ts' ys
 |[],ts,ts',xs,G,e=>by cases e;exact⟨xs,rfl,G⟩
 |(i,x)::r,ts,ts',xs,G,e=>by
  simp only[cz]at e;split at e
  case h_2=>cases e
  rename_i off size g us j hc;split at e
  case isFalse=>cases e
  rename_i k;obtain⟨ys,H,hv⟩:=I.cellsCopy hc;have c:=mD H hv;have f:=G.spliceP H k.2;rw[WG]at f;obtain⟨l,m,n⟩:=kC I pl r f e;refine⟨l,?_,n⟩;have o:=G.v.1;have q:=H.v.1;have d:pl.toArray[i]?=some (off,size):=by simpa using j
  simp only[Wv,Instr.fill,d,c];rw[Wo (by simp;omega)];rw[iu ys.toArray off xs.toArray (by simp;omega)];simpa using m
theorem Jk {P:Program}{tab:Tab}(ok:bz P tab){cx:Cx}{D D':DSt}{a:Act}{w:World}(I:Inv cx D [] a.tmps w){dst:Option Nat}{t:Nat}{b:Array (Nat×Operand)}(e:pL mkD tab D dst t b.toList=some D'):
  ∃y,(Instr.build t (b.map fun(i,x)=>(i,a.eval x))).run P w = .ok y w∧Inv cx D' [] (a.put dst y).tmps w:=by
 unfold pL at e;split at e
 case h_2=>cases e
 rename_i ti pl i x r d m n c;split at e
 case h_2=>cases e
 rename_i off size S us D1 B C;split at e
 case isFalse=>cases e
 rename_i hc;rw[We]at e;obtain⟨ts,F,rfl⟩:=e;obtain⟨J,l,hd⟩:=hc;obtain⟨ys,U,q,H,hv⟩:=I.cellsTake C;obtain⟨V,W,z,g1,X,g3,g4,Y,K,Z,L⟩:=gK (Tab.ok ok m);have G:=lr (P:=P) (t:=t) (w:=w) (cx:=cx) (D:=D1) (ys:=z.cells.toList) L;rw[←K]at G;have u:=G.spliceP H l;rw[WI]at u;obtain⟨A,M,N⟩:=kC q pl r u F;have f:=mD H hv;have k:Instr.fill (pl.toArray[·]?) z.cells.toList.toArray (b.toList.map fun p=>(p.1,a.eval p.2))=some A.toArray:=by
  rw[c];have O:z.cells.toList.length=z.cells.size:=by simp
  have Q:(ti.zero.map (T.inj mkD.nil)).length=z.cells.size:=by rw[←O];exact G.v.1
  have e2:=H.v.1;rw[Q]at l;have o:pl.toArray[i]?=some (off,size):=by simpa using B
  simp only[Wv,Instr.fill,o,f];rw[Wo (by simp;omega)];rw[iu ys.toArray off z.cells.toList.toArray (by simp;omega)];simpa using M
 refine⟨.agg A.toArray,run_build w t _ _ ?_,?_⟩
 ·have j:=Tab.okPl ok n;unfold rx at j;split at j
  ·rename_i fs R;unfold Program.built;rw[g1,R];simp only[g3,j];simpa using k
  ·cases j
 ·exact q.putGot (g:=true) (s := .agg ts) N (by simp[co]) rfl (fun t' h=>by cases h;exact hd) rfl
section
variable  {δ β : Type}
def rv (D:St δ β):Operand→Bool
 | .tmp t=>match D[t]? with|some s=>s.isHome|none=>false
 |_=>false
def ub (M:Mk δ β)(tab:Tab)(D:St δ β)(dst:Option Nat)(t:Nat)(a:List (Nat×Operand)):Option (St δ β):=
 match tab.ti t,tab.pl t,a.dropWhile (fun p => !rv D p.2),dst with
 |some ti,some pl,(i,x)::r,some d =>
  match pl[i]?,cellsTake M D x,cz M D pl (a.takeWhile (fun p => !rv D p.2)) (ti.zero.map (T.inj M.nil))with
  |some (off,size),some (_,us,D1),some b =>
   if us.length=size∧off+us.length≤b.length∧d<D1.length∧b.all T.noLent=true then
    (cz M D1 pl r (aD b off us)).map fun ts=>ba D1 (some d) (.agg ts)
   else none
  |_,_,_=>none
 |_,_,_,_=>none
def po (M:Mk δ β)(tab:Tab)(D:St δ β)(dst:Option Nat)(t:Nat)(a:List (Nat×Operand)):Option (St δ β):=
 match pL M tab D dst t a with
 |some r=>some r
 |none=>ub M tab D dst t a
theorem Jj {M:Mk δ β}{tab:Tab}{D r:St δ β}{dst:Option Nat}{t:Nat}{a:List (Nat×Operand)}(h:pL M tab D dst t a=some r):po M tab D dst t a=some r:=by unfold po;rw[h]
end
theorem B3 {pl:Nat→Option (Nat×Nat)}:∀(b a:List (Nat×Value))(xs ys:Array Value),Instr.fill pl xs b=some ys→Instr.fill pl xs (b++a)=Instr.fill pl ys a
 |[],a,xs,ys,h=>by simp only[Instr.fill]at h;cases h;rfl
 |(i,v)::b,a,xs,ys,h=>by
  rw[Ym];unfold Instr.fill at h
  conv=>lhs;unfold Instr.fill
  cases c:pl i with
  |none=>rw[c]at h;cases h
  |some os =>
   obtain⟨off,size⟩:=os;rw[c]at h;simp only at h ⊢;split at h
   ·cases h
   ·rename_i hc;rw[Wo hc];exact B3 b a _ ys h
theorem Hs {P:Program}{tab:Tab}(ok:bz P tab){cx:Cx}{D D':DSt}{a:Act}{w:World}(I:Inv cx D [] a.tmps w){dst:Option Nat}{t:Nat}{b:Array (Nat×Operand)}(e:ub mkD tab D dst t b.toList=some D'):
  ∃y,(Instr.build t (b.map fun(i,x)=>(i,a.eval x))).run P w = .ok y w∧Inv cx D' [] (a.put dst y).tmps w:=by
 unfold ub at e;split at e
 case h_2=>cases e
 rename_i ti pl i x r d u A c;split at e
 case h_2=>cases e
 rename_i off size gg us D1 B O Q m;split at e
 case isFalse=>cases e
 rename_i hc;rw[We]at e;obtain⟨ts,R,rfl⟩:=e;obtain⟨S,n,hd,C⟩:=hc;obtain⟨ys,Pd,K,H,hv⟩:=I.cellsTake Q;obtain⟨i',dd,z,g1,g2,g3,g4,g5,U,g7,V⟩:=gK (Tab.ok ok u);have G:=lr (P:=P) (t:=t) (w:=w) (cx:=cx) (D:=D) (ys:=z.cells.toList) V;rw[←U]at G;obtain⟨o,F,l⟩:=kC I pl _ G m;have W:Got cx D1 w [] B o:=⟨l.v,l.holds,l.own,fun t L=>uj (Wt.1 C t L) (l.kind t L),l.cnt⟩
 have M:=W.spliceP H n;rw[WI]at M;obtain⟨N,X,Y⟩:=kC K pl r M R;have f:=mD H hv;have q:b.toList=b.toList.takeWhile (fun p => !rv D p.2)++(i,x)::r:=by rw[←c];exact(List.takeWhile_append_dropWhile).symm
 have k:Instr.fill (pl.toArray[·]?) z.cells.toList.toArray (b.toList.map fun p=>(p.1,a.eval p.2))=some N.toArray:=by
  rw[q,W8,B3 _ _ _ _ F];have Z:=l.v.1;have e2:=H.v.1;rw[Z]at n;have J:pl.toArray[i]?=some (off,size):=by simpa using O
  simp only[Wv,Instr.fill,J,f];rw[Wo (by simp;omega)];rw[iu ys.toArray off o.toArray (by simp;omega)];simpa using X
 refine⟨.agg N.toArray,run_build w t _ _ ?_,?_⟩
 ·have j:=Tab.okPl ok A;unfold rx at j;split at j
  ·rename_i fs hu;unfold Program.built;rw[g1,hu];simp only[g3,j];simpa using k
  ·cases j
 ·exact K.putGot (g:=true) (s := .agg ts) Y (by simp[co]) rfl (fun t' h=>by cases h;exact hd) rfl
theorem Ht {P:Program}{tab:Tab}(ok:bz P tab){cx:Cx}{D D':DSt}{a:Act}{w:World}(I:Inv cx D [] a.tmps w){dst:Option Nat}{t:Nat}{b:Array (Nat×Operand)}(e:po mkD tab D dst t b.toList=some D'):
  ∃y,(Instr.build t (b.map fun(i,x)=>(i,a.eval x))).run P w = .ok y w∧Inv cx D' [] (a.put dst y).tmps w:=by
 unfold po at e;split at e
 ·rename_i r h;cases e;exact Jk ok I h
 ·exact Hs ok I e
section
section
variable  {δ β : Type}
def putA (D:St δ β)(t:Nat)(x:Sl δ β):St δ β :=
 match D[t]? with
 |some .any=>D.set t x
 |_=>ba D (some t) x
def eU (D:St δ β)(dst:Option Nat)(x:Sl δ β):Option (St δ β):=
 match dst with
 |none=>some D
 |some t=>if t<D.length then some (putA D t x)else none
def lu (M:Mk δ β)(tab:Tab)(D:St δ β)(t:Nat)(x:Operand):Option (Bool×List (T δ)×St δ β):=
 match tab.ti t,opd M.nil D x with
 |some ti,some (.pb h 0)=>
  match D[h]? with
  |some (.box _ ts)=>if ts.length=ti.size∧ti.sh ≠ .other∧ti.sh.agg=true∧ts.all T.noLent=true then some (true,ts,bc h D)else none
  |_=>none
 |_,_=>none
def uN (tab:Tab)(ty:Nat)(x:Operand):Option Nat :=
 match x with
 | .const (.slice none 0 0)=>match tab.ti ty with|some ⟨_,_,_,.slice e⟩=>(tab.ti e).map (·.size)|_=>none
 |_=>none
def j6 (D:St δ β)(x:Operand):Option (List (Bool×List (T δ))):=
 match x with
 | .tmp t=>match D[t]? with|some (.tup rs)=>if(rs.all fun r=>r.2.all T.flat)=true∧rs≠[]then some rs else none|_=>none
 |_=>none
def wL (c:Call):Option (Nat×Nat×Operand×Operand):=
 match c.callee,c.args.toList,c.argTypes.toList with
 | .builtin .append,[s,x],[t,t2]=>some (t,t2,s,x)
 |_,_,_=>none
def dx (M:Mk δ β)(F:m5 δ β)(tab:Tab)(D:St δ β)(o:Oper)(tk:Bool):Option (St δ β):=
 match o.op with
 | .store t p x=>match o.dst with
  |none=>(match uN tab t x with|some z=>pi M tab D t p z|none=>rJ M tab D t p x tk)
  |some _=>none
 | .alloc t=>pn M F tab D o.dst t
 | .box _ x=>Bw M F D o.dst x tk
 | .move x=>match uN tab o.type x with
  |some z=>eU D o.dst (.one (.s .own M.nil z []))
  |none=>match j6 D x with
  |some rs=>eU D o.dst (.tup rs)
  |none=>match(if tk then nQ D x o.dst else none)with
  |some D'=>some D'
  |none=>if tk then(cellsTake M D x).bind fun r=>match o.dst with|some t=>if t<r.2.2.length then(iR r.1 r.2.1).map fun s=>ba r.2.2 (some t) s else none|none=>none
   else(b9 M tab D o.op).bind fun s=>eU D o.dst s
 | .assign x=>match uN tab o.type x with
  |some z=>eU D o.dst (.one (.s .own M.nil z []))
  |none=>if tk then(cellsTake M D x).bind fun r=>match o.dst with|some t=>if t<r.2.2.length then(iR r.1 r.2.1).map fun s=>ba r.2.2 (some t) s else none|none=>none
   else(b9 M tab D o.op).bind fun s=>eU D o.dst s
 | .load t x=>if tk then(lu M tab D t x).bind fun r=>match o.dst with|some t=>if t<r.2.2.length then(iR r.1 r.2.1).map fun s=>ba r.2.2 (some t) s else none|none=>none
   else(b9 M tab D o.op).bind fun s=>eU D o.dst s
 | .extract x i=>pv D o.dst x i
 | .makeFunc fn first caps=>match fn with| .func f=>if first.toList=[]then(xK D f caps.toList).bind fun s=>eU D o.dst s else none|_=>none
 | .buildSlice t len a=>if tk then kr M F tab D o.dst t len a.toList else fb M F tab D o.dst t len a.toList
 | .makeSlice t l c=>fd M F tab D o.dst t l c
 | .call c=>match wL c with
  |some (t,t2,s,x)=>mB M F tab D o.dst t t2 s x
  |none=>(b9 M tab D o.op).bind fun s=>eU D o.dst s
 | .convert b dst x=>match mC M tab D b dst x with
  |some rows=>(eR rows).bind fun xs=>eU D o.dst (.one (.v (.string (strOfNums xs))))
  |none=>match gW M F tab D o.dst b dst x with
  |some D'=>some D'
  |none=>(b9 M tab D o.op).bind fun s=>eU D o.dst s
 | .build t a=>if tk then po M tab D o.dst t a.toList else(m9 M tab D t a.toList).bind fun s=>eU D o.dst s
 |op=>(b9 M tab D op).bind fun s=>eU D o.dst s
end
theorem Inv.any_refs {cx:Cx}{D:DSt}{P:List (DT×Value)}{tm:Array Value}{w:World}(I:Inv cx D P tm w){t:Nat}(x:D[t]?=some .any){s:DSl}{y:Value}(hv:VS D s y)(q:eW cx D s):¬cQ t s:=by
 have hc:∀c,av D t c=none:=fun c=>by simp[av,x,aZ]
 have j:∀(us:List DT),(∀u∈us,bK cx D u)→¬ ∃u∈us,∃c o d z r,u = .s (.lent t c o) d z r:=by rintro us h ⟨u,v,c,o,d,z,r,rfl⟩;obtain⟨t',m,_⟩:=h _ v;rw[hc]at m;cases m
 intro l;cases s with
 |any=>exact l
 |one u=>obtain⟨c,o,d,z,r,rfl⟩:=l;exact j [_] (fun u v=>q u (by simpa[aj]using v)) ⟨_,WP _,c,o,d,z,r,rfl⟩
 |agg ts=>exact j ts q l
 |box b ts=>exact j ts q l
 |al h c st lo len =>simp only[cQ]at l;subst l;obtain⟨d,z,n,a,⟨t',m,_⟩,_⟩:=hv;rw[hc]at m;cases m
 |pe h c st i off =>simp only[cQ]at l;subst l;obtain⟨d,z,n,⟨t',m,_⟩,_⟩:=hv;rw[hc]at m;cases m
 |pb h off =>simp only[cQ]at l;subst l;obtain⟨b,ts,m,_⟩:=hv;rw[x]at m;cases m
 |im k b ts off =>
  cases k with
  |own=>exact l
  |far=>exact l
  |lent h c o =>simp only[cQ]at l;subst l;obtain⟨t',m,_⟩:=q;rw[hc]at m;cases m
 |fni f caps=>exact l
 |clo f hs =>
  obtain⟨B,m,C,_⟩:=hv;obtain⟨i,hi⟩:=Wm l;obtain⟨b,hb⟩:∃b,B[i]?=some b:=by
   have:i<hs.length:=by
    rcases Wl i hs.length with g|g
    ·exact g
    ·rw[Wh g]at hi;cases hi
   exact⟨_,Wg (by omega)⟩
  obtain⟨ts,A⟩:=C i t b hi hb;rw[x]at A;cases A
 |tup rs =>obtain⟨p,F,u,v,c,o,d,z,r,e⟩:=l;exact j (aj (.tup rs)) q ⟨u,Wq.2 ⟨p,F,v⟩,c,o,d,z,r,e⟩
theorem Inv.putA {cx:Cx}{D:DSt}{a:Act}{w:World}(I:Inv cx D [] a.tmps w){t:Nat}{s:DSl}{y:Value}(f:t<D.length)(h:Tells cx D w s y):Inv cx (putA D t s) [] (a.put (some t) y).tmps w:=by
 have c:∀b,(ownBl s).count b≤aV [] b:=by intro b;have:ownBl s=[]:=h.noown;rw[this];simp[aV]
 unfold Am.putA;split
 ·rename_i e;exact Inv.fill (P:=[]) (Q:=[]) (by simpa using I) e (fun s' d=>by obtain⟨u,g⟩:=Wm d;exact I.any_refs e (I.val u s' g) (I.kind s' d)) (I.any_refs e h.val h.kind) h.val h.mem h.kind c
 ·exact Inv.put (P:=[]) (Q:=[]) (by simpa using I) f h.val h.mem h.kind c
variable  {P : Program}{tab : Tab}
inductive Ds (cx:Cx)(D':DSt)(a:Act)(o:Oper)(w':World):Next→Prop where|value (y:Value) (h:Inv cx D' [] (a.put o.dst y).tmps w'):Ds cx D' a o w' (.value y)|skip (hd:o.dst=none) (h:Inv cx D' [] a.tmps w'):Ds cx D' a o w' .skip
theorem nb (ok:bz P tab){cx:Cx}{D D':DSt}{a:Act}{w:World}(I:Inv cx D [] a.tmps w){o:Oper}(e:((b9 mkD tab D o.op).bind fun s=>eU D o.dst s)=some D'):
  ∃c w',(execOp a.eval o).run P w = .ok c w'∧Ds cx D' a o w' c:=by
 rw[Wb]at e;obtain⟨s,d,b⟩:=e;obtain⟨y,f,g⟩:=rN ok I d;refine⟨_,w,f,.value y ?_⟩;unfold eU at b;split at b
 ·rename_i hd;cases b;rw[hd];exact I
 ·rename_i t hd;split at b
  ·cases b;rw[hd];exact I.putA ‹_› g
  ·cases b
theorem ry {cx:Cx}{D D':DSt}{a:Act}{w:World}(I:Inv cx D [] a.tmps w){o:Oper}{s:DSl}{y:Value}(c:Tells cx D w s y)(b:eU D o.dst s=some D'):Ds cx D' a o w (.value y):=by
 refine .value y ?_;unfold eU at b;split at b
 ·rename_i hd;cases b;rw[hd];exact I
 ·rename_i t hd;split at b
  ·cases b;rw[hd];exact I.putA ‹_› c
  ·cases b
theorem Hj {cx:Cx}{D D':DSt}{a:Act}{w:World}(I:Inv cx D [] a.tmps w){x:Operand}{dst:Option Nat}
  (e:((cellsTake mkD D x).bind fun r=>match dst with|some t=>if t<r.2.2.length then(iR r.1 r.2.1).map fun s=>ba r.2.2 (some t) s else none|none=>none)=some D'):
  Inv cx D' [] (a.put dst (a.eval x)).tmps w:=by
 rw[Wb]at e;obtain⟨⟨g,us,D1⟩,c,b⟩:=e;obtain⟨ys,i,d,G,hv⟩:=I.cellsTake c;simp only at b;split at b
 ·rename_i t;split at b
  ·rename_i f;rw[We]at b;obtain⟨s,hs,rfl⟩:=b;exact d.putGot G hv hs (fun t' h=>by cases h;exact f) rfl
  ·cases b
 ·cases b
theorem H7 (ok:bz P tab){cx:Cx}{D D':DSt}{a:Act}{w:World}(I:Inv cx D [] a.tmps w){o:Oper}{t:Nat}{x:Operand}(C:o.op = .load t x)
  (e:((lu mkD tab D t x).bind fun r=>match o.dst with|some t=>if t<r.2.2.length then(iR r.1 r.2.1).map fun s=>ba r.2.2 (some t) s else none|none=>none)=some D'):
  ∃y,(execOp a.eval o).run P w = .ok (.value y) w∧Inv cx D' [] (a.put o.dst y).tmps w:=by
 rw[Wb]at e;obtain⟨⟨g,us,D1⟩,l,n⟩:=e;unfold lu at l;split at l
 case h_2=>cases l
 rename_i ti h F M;split at l
 case h_2=>cases l
 rename_i b ts hh;split at l
 case isFalse=>cases l
 rename_i hc;cases l;obtain⟨N,O,Q,q⟩:=hc;have R:b9 mkD tab D o.op=some (.agg (us.mapIdx fun j u=>u.kd (.lent h (0+j) true))):=by
  rw[C];have H:opd mkD.nil D x=some (.pb h 0):=M;simp only[b9,H,F];rw[Wo O];simp only[ki,boxRange,hh];rw[Wa (by omega),V9,Wa Q];have:(us.drop 0).take ti.size=us:=by rw[WK, ←N,WS]
  rw[this]
 obtain⟨y,S,U⟩:=rN ok I R;refine⟨y,S,?_⟩;obtain⟨cs,V,m⟩:=U.val;have f:VCells us cs.toList:=by refine⟨by simpa using m.1,fun i u v hi hv=>?_⟩;have:=m.2 i (u.kd (.lent h (0+i) true)) v (by rw[XV,hi];rfl) hv;exact Oo.1 this
 have L:=I.mem _ (Wd hh);have W:=I.kind _ (Wd hh);have A:∀v∈us,∀h c B d z r,v ≠ .s (.lent h c B) d z r:=by intro v hv h c B d z r g;have:=Wt.1 q v hv;rw[g]at this;simp[T.noLent]at this
 have X:=Inv.take I (cs:=us.zip cs.toList) hh (fun p J=>by obtain⟨i,hi⟩:=Wm J;rw[Ya]at hi;exact⟨Wd hi.1,Wd hi.1,f.2 i _ _ hi.1 hi.2⟩)
  (fun p J=>A p.1 (List.of_mem_zip J).1) (fun c=>by rw[oZ _ _ f.1];simp only[ownBl];rw[Xn];omega) (by simp) (by simp)
 have G:Got cx (bc h D) w (us.zip cs.toList++[]) us cs.toList:=by
  refine⟨f,L.1,L.2.1,fun v hv=>?_,fun c=>?_⟩
  ·have K:=W v hv;have:=A v hv;cases v with
   |v x=>trivial
   |any=>trivial
   |s k d z r =>
    cases k with
    |own=>trivial
    |far=>exact K
    |lent h c B=>exact absurd rfl (this h c B d z r)
  ·rw[WG,oZ _ _ f.1];exact WU _
 simp only at n;split at n
 ·rename_i t' hd;split at n
  ·rename_i Y;rw[We]at n;obtain⟨s,hs,rfl⟩:=n;have:=Inv.putGot (dst:=some t') X G (by simp only[co,WN];exact V) hs (fun Z h=>by cases h;exact Y) rfl;rw[hd];exact this
  ·cases n
 ·cases n
theorem Qp {cx:Cx}{D:DSt}{a:Act}{w:World}(I:Inv cx D [] a.tmps w){f:FuncId}{caps:Array Operand}{s:DSl}(e:xK D f caps.toList=some s):Tells cx D w s (.func (.func f) #[] (caps.map a.eval)):=by
 unfold xK at e;rw[We]at e;obtain⟨hs,r,rfl⟩:=e;have l:∀(xs:List Operand){hs:List Nat},oX D xs=some hs →
   ∃d:List (Nat×Nat),d.length=hs.length∧(∀(i h:Nat)(b:Nat×Nat),hs[i]?=some h→d[i]?=some b→∃ts,D[h]?=some (.box b ts))∧xs.map a.eval=d.map fun b=>Value.pointer (some ⟨b.1,b.2,none⟩):=by
  intro xs;induction xs with
  |nil=>intro hs h;cases h;exact⟨[],rfl,fun i h b hi=>by simp at hi,rfl⟩
  |cons x xs v =>
   intro hs h;simp only[oX,Wb,We]at h;obtain⟨y,g,z,A,rfl⟩:=h;obtain⟨d,m,n,o⟩:=v A;have j:∃(b:Nat×Nat) (ts:List DT),D[y]?=some (.box b ts)∧a.eval x = .pointer (some ⟨b.1,b.2,none⟩):=by
    unfold lQ at g;split at g
    ·rename_i t;split at g
     ·rename_i b ts hb;cases g;exact⟨b,ts,hb,I.val _ _ hb⟩
     ·rename_i B hb;cases g;obtain⟨b,ts,p,q⟩:=I.val _ _ hb;exact⟨b,ts,p,q⟩
     ·cases g
    ·cases g
   obtain⟨b,ts,p,q⟩:=j;refine⟨b::d,by simp[m],fun i h c hi hc=>?_,by simp[o,q]⟩;cases i with
   |zero=>simp at hi hc;subst hi;subst hc;exact⟨ts,p⟩
   |succ i=>simp at hi hc;exact n i h c hi hc
 obtain⟨d,m,n,o⟩:=l _ r;refine⟨⟨d,m,n,?_⟩,⟨fun u k=>by simp[aj]at k,fun u k=>by simp[rootsO]at k,trivial⟩,fun u k=>by simp[aj]at k,rfl⟩;congr 1;rw[←XH];simpa using o
theorem Je {c:Call}{t t2:Nat}{s x:Operand}(h:wL c=some (t,t2,s,x)):c.callee = .builtin .append∧c.args = #[s,x]∧c.argTypes = #[t,t2]:=by
 unfold wL at h;split at h
 ·rename_i a b d;cases h;exact⟨a,by rw[←XH];exact b,by rw[←XH];exact d⟩
 ·cases h
theorem Hk {cx:Cx}{D:DSt}{a:Act}{w:World}(I:Inv cx D [] a.tmps w){x:Operand}{rs:List (Bool×List DT)}(h:j6 D x=some rs):Tells cx D w (.tup rs) (a.eval x):=by
 unfold j6 at h;split at h
 ·rename_i t;split at h
  ·rename_i rs' hr;split at h
   ·rename_i hf;cases h;have c:=Wd hr;refine⟨I.val t _ hr,I.mem _ c,I.kind _ c,?_⟩;simp only[ownBl,WB];intro r b u e;have:=Wt.1 (Wt.1 hf.1 r b) u e;cases u with
    |v x=>rfl
    |any=>rfl
    |s k d z q=>cases this
   ·cases h
  ·cases h
 ·cases h
theorem G3 {cx:Cx}{D:DSt}{w:World}(z:Nat):Tells cx D w (.one (.s .own nilD z [])) (.slice none 0 0):=by
 refine⟨rfl,⟨fun u a=>?_,fun u a _=>?_,trivial⟩,fun u a=>?_,?_⟩
 ·simp only[aj,Wk]at a;subst a;exact .e _ _ _
 ·simp only[rootsO,Wk]at a;subst a;exact .nil _ _ rfl rfl rfl
 ·simp only[aj,Wk]at a;subst a;trivial
 ·simp[ownBl,ownR,T.isOwn,cJ,nilD]
theorem E0 (ok:bz P tab){cx:Cx}{D D':DSt}{a:Act}{w:World}(I:Inv cx D [] a.tmps w){o:Oper}{tk:Bool}(e:dx mkD (frD w) tab D o tk=some D'):
  ∃r w',(execOp a.eval o).run P w = .ok r w'∧Ds cx D' a o w' r:=by
 unfold dx at e;split at e
 ·rename_i t p x b;split at e
  ·rename_i hd;split at e
   ·rename_i z hz;have k:a.eval x = .slice none 0 0:=by
     unfold uN at hz;split at hz
     ·rfl
     ·cases hz
    obtain⟨w',d,g⟩:=Gv ok I e;rw[←k]at d;exact⟨.skip,w',by simp[execOp,b,d],.skip hd g⟩
   ·obtain⟨w',d,g⟩:=NA ok I e;exact⟨.skip,w',by simp[execOp,b,d],.skip hd g⟩
  ·cases e
 ·rename_i t b;obtain⟨y,w',d,g⟩:=BQ ok I e;exact⟨.value y,w',by simp[execOp,b,d],.value y g⟩
 ·rename_i t x b;obtain⟨y,w',d,g⟩:=Qo (P:=P) (t:=t) I e;exact⟨.value y,w',by simp[execOp,b,d],.value y g⟩
 ·rename_i x b;split at e
  ·rename_i z hz;have k:a.eval x = .slice none 0 0:=by
    unfold uN at hz;split at hz
    ·rfl
    ·cases hz
   exact⟨.value (a.eval x),w,by simp[execOp,b],ry I (k ▸ G3 z) e⟩
  ·split at e
   ·rename_i rs u;exact⟨.value (a.eval x),w,by simp[execOp,b],ry I (Hk I u) e⟩
   ·split at e
    ·rename_i v hs;cases e;split at hs
     ·exact⟨.value (a.eval x),w,by simp[execOp,b],.value _ (IL I hs)⟩
     ·cases hs
    split at e
    ·exact⟨.value (a.eval x),w,by simp[execOp,b],.value _ (Hj I e)⟩
    ·exact nb ok I e
 ·rename_i x b;split at e
  ·rename_i z hz;have k:a.eval x = .slice none 0 0:=by
    unfold uN at hz;split at hz
    ·rfl
    ·cases hz
   exact⟨.value (a.eval x),w,by simp[execOp,b],ry I (k ▸ G3 z) e⟩
  ·split at e
   ·exact⟨.value (a.eval x),w,by simp[execOp,b],.value _ (Hj I e)⟩
   ·exact nb ok I e
 ·rename_i t x b;split at e
  ·obtain⟨y,d,g⟩:=H7 ok I b e;exact⟨.value y,w,d,.value _ g⟩
  ·exact nb ok I e
 ·rename_i x i b;obtain⟨y,d,g⟩:=Hx (P:=P) I e;exact⟨.value y,w,by simp[execOp,b,d],.value y g⟩
 ·rename_i fn first caps b
  split at e
  case h_2=>cases e
  rename_i f;split at e
  case isFalse=>cases e
  rename_i h;rw[Wb]at e;obtain⟨s,d,g⟩:=e;have hf:first = #[]:=by rw[←XH];exact h
  subst hf;exact⟨.value _,w,by simp[execOp,b,Instr.makeFunc],ry I (Qp I d) g⟩
 ·rename_i t len j b;split at e
  ·obtain⟨y,w',d,g⟩:=BG ok I e;exact⟨.value y,w',by simp[execOp,b,d],.value y g⟩
  ·obtain⟨y,w',d,g⟩:=CP ok I e;exact⟨.value y,w',by simp[execOp,b,d],.value y g⟩
 ·rename_i t l c b;obtain⟨y,w',d,g⟩:=Et ok I e;exact⟨.value y,w',by simp[execOp,b,d],.value y g⟩
 ·rename_i c b;split at e
  ·rename_i t t2 s x n;obtain⟨q1,A,B⟩:=Je n;obtain⟨y,w',d,g⟩:=Jf (ty:=o.type) ok I e;refine⟨.value y,w',?_,.value y g⟩;simp[execOp,b,resolve,invoke,builtin,q1,A,B,d]
  ·exact nb ok I e
 ·rename_i C dst x b;split at e
  ·rename_i rows hb;rw[Wb]at e;obtain⟨xs,d,g⟩:=e;have m:=Fg ok I hb d;exact⟨.value _,w,by simp[execOp,b,m],ry I (.one_v _ rfl) g⟩
  ·split at e
   ·rename_i v hs;cases e;obtain⟨y,w',d,g⟩:=Gw ok I hs;exact⟨.value y,w',by simp[execOp,b,d],.value y g⟩
   ·exact nb ok I e
 ·rename_i t j b;split at e
  ·obtain⟨y,m,q⟩:=Ht ok I e;exact⟨.value y,w,by simp[execOp,b,m],.value y q⟩
  ·rw[Wb]at e;obtain⟨s,d,g⟩:=e;obtain⟨y,m,q⟩:=BT ok I d;exact⟨.value y,w,by simp[execOp,b,m],ry I q g⟩
 ·exact nb ok I e
end
mutual
def T.er:DT→T Unit| .v x=>.v x| .any=>.any| .s k _ z rows=>.s k () z (zZ rows)
def DJ:List DT→List (T Unit)|[]=>[]|t::r=>t.er::DJ r
def zZ:List (List DT)→List (List (T Unit))|[]=>[]|r::rs=>DJ r::zZ rs
end
abbrev erL:List DT→List (T Unit):=List.map T.er
theorem Sg (r:List DT):DJ r=erL r:=by
 induction r with
 |nil=>simp[DJ]
 |cons t r a=>simp[DJ,a]
theorem GO (r:List (List DT)):zZ r=r.map erL:=by
 induction r with
 |nil=>simp[zZ]
 |cons t r a=>simp[zZ,a,Sg]
theorem aC (k:Kd)(d:Dec)(z:Nat)(rows:List (List DT)):(T.s k d z rows:DT).er = .s k () z (rows.map erL):=by rw[T.er,GO]
theorem dz (x:Value):(T.v x:DT).er = .v x:=rfl
theorem wR:(T.any:DT).er = .any:=rfl
def Sl.er:DSl→Sl Unit Unit| .any=>.any| .one t=>.one t.er| .agg ts=>.agg (erL ts)| .box _ ts=>.box () (erL ts)| .al h c st lo len=>.al h c st lo len| .pb h off=>.pb h off| .pe h c st i off=>.pe h c st i off| .im k _ ts off=>.im k () (erL ts) off| .fni f caps=>.fni f (caps.map fun p=>((),erL p.2))| .clo f hs=>.clo f hs| .tup rs=>.tup (rs.map fun r=>(r.1,erL r.2))
def erD (D:DSt):St Unit Unit:=D.map Sl.er
theorem S4 (k:Kd)(t:DT):(t.kd k).er=t.er.kd k:=by
 cases t with
 |s k' d z r=>cases k'<;>simp[T.kd,aC]
 |_=>rfl
theorem NR (k:Kd)(t:DT):(t.view k).er=t.er.view k:=by
 cases t with
 |s k' d z r=>simp[T.view,aC]
 |_=>rfl
theorem dw (t:DT):t.er.isOwn=t.isOwn:=by
 cases t with
 |s k' d z r=>cases k'<;>simp[T.isOwn,aC]
 |_=>rfl
theorem qY (t:DT):t.er.fine=t.fine:=by
 cases t with
 |s k' d z r=>cases k'<;>simp[T.fine,aC]
 |_=>rfl
theorem wS (t:DT):t.er.flat=t.flat:=by
 cases t with
 |s k' d z r=>simp[T.flat,aC]
 |_=>rfl
theorem lg (t:DT):t.er.noLent=t.noLent:=by
 cases t with
 |s k' d z r=>cases k'<;>simp[T.noLent,aC]
 |_=>rfl
theorem er_dead (p:Nat→Nat→Bool)(t:DT):(t.dead p).er=t.er.dead p:=by
 cases t with
 |s k' d z r =>
  cases k' with
  |lent h c a=>simp only[T.dead,aC];split<;>simp[aC,wR]
  |_=>simp[T.dead,aC]
 |_=>rfl
theorem xR (p:Nat→Nat→Bool)(ts:List DT):erL (ts.map (T.dead p))=(erL ts).map (T.dead p):=by simp only[erL,WW];exact WT fun t _=>er_dead p t
theorem uw (k:Kd)(ts:List DT):erL (ts.map (T.view k))=(erL ts).map (T.view k):=by simp only[erL,WW];exact WT fun t _=>NR k t
theorem Sl.er_dead (p:Nat→Nat→Bool)(q:Nat→Nat→Bool→Bool)(s:DSl):(s.dead p q).er=s.er.dead p q:=by
 cases s with
 |one t=>simp[Sl.dead,Sl.er,Am.er_dead]
 |agg ts=>simp only[Sl.dead,Sl.er,xR]
 |box b ts=>simp only[Sl.dead,Sl.er,xR]
 |al h c st lo len=>by_cases e:q h c (!st.isEmpty)=true<;>simp[e,Sl.dead,Sl.er]
 |pe h c st lo len=>by_cases e:q h c (!st.isEmpty)=true<;>simp[e,Sl.dead,Sl.er]
 |im k b ts off =>
  cases k with
  |lent h c a=>by_cases e:p h c=true<;>simp[e,Sl.dead,Sl.er]
  |_=>simp[Sl.dead,Sl.er]
 |tup rs=>simp only[Sl.dead,Sl.er,WW];congr 1;exact WT fun r _=>by simp only[Function.comp,xR]
 |_=>rfl
theorem Sl.er_gone (t:Nat)(s:DSl):(s.gone t).er=s.er.gone t:=by
 cases s with
 |pb h off=>by_cases e:h=t<;>simp[e,Sl.gone,Sl.er]
 |clo f hs=>by_cases e:t∈hs<;>simp[e,Sl.gone,Sl.er]
 |_=>rfl
theorem mF (p:Nat→Nat→Bool)(q:Nat→Nat→Bool→Bool)(D:DSt):erD (St.dead p q D)=St.dead p q (erD D):=by simp only[St.dead,erD,WW];exact WT fun s _=>Sl.er_dead p q s
theorem fC (D:DSt):(erD D).length=D.length:=by simp[erD]
theorem cf (D:DSt)(t:Nat):(erD D)[t]?=(D[t]?).map Sl.er:=by simp[erD]
theorem gF (D:DSt)(t:Nat)(s:DSl):erD (D.set t s)=(erD D).set t s.er:=by simp[erD,Ye]
theorem kb (t:Nat)(D:DSt):erD (bc t D)=bc t (erD D):=by unfold bc;rw[gF, ←mF];congr 1;simp only[erD,WW];exact WT fun s _=>Sl.er_gone t s
theorem Sk (t:Nat)(s:DSl):(s.clean t).er=s.er.clean t:=by unfold Sl.clean;rw[Sl.er_gone,Sl.er_dead]
theorem cv (D:DSt)(dst:Option Nat)(s:DSl):erD (ba D dst s)=ba (erD D) dst s.er:=by
 cases dst with
 |none=>rfl
 |some t=>simp only[ba];rw[gF,kb,Sk]
theorem Bx (D:DSt)(t:Nat)(s:DSl):erD (putA D t s)=putA (erD D) t s.er:=by
 unfold putA;rw[cf];cases h:D[t]? with
 |none=>exact cv D (some t) s
 |some x=>cases x<;>first|exact gF D t s|exact cv D (some t) s
theorem pr (D:DSt)(dst:Option Nat)(s:DSl):eU (erD D) dst s.er=(eU D dst s).map erD:=by
 cases dst with
 |none=>rfl
 |some t=>simp only[eU,fC];split<;>simp[Bx]
theorem z8 (s:DSl):aZ s.er=(aZ s).map erL:=by cases s<;>simp[aZ,Sl.er]
theorem L8 (cs:List DT)(s:DSl):(setCells cs s).er=setCells (erL cs) s.er:=by
 cases s with
 |one t=>cases cs<;>simp[setCells,Sl.er,wR]
 |_=>simp[setCells,Sl.er]
theorem lf (D:DSt)(h c:Nat):av (erD D) h c=(av D h c).map T.er:=by
 unfold av;rw[cf];cases D[h]? with
 |none=>rfl
 |some s =>
  simp only[Wc,V9,z8];cases aZ s with
  |none=>rfl
  |some cs=>simp
theorem JE (D:DSt)(h c:Nat)(t:DT):gE (erD D) h c t.er=(gE D h c t).map erD:=by
 unfold gE;rw[cf];cases D[h]? with
 |none=>rfl
 |some s =>
  simp only[Wc,z8];cases aZ s with
  |none=>rfl
  |some cs =>simp only[Wc,gF,L8];simp[Ye]
theorem wT:∀(st:List (Nat×Nat))(t:DT),getN t.er st=(getN t st).map T.er
 |[],t=>by simp[getN]
 |(i,c)::st,t=>by
  cases t with
  |v x=>rfl
  |any=>rfl
  |s k d z rows =>
   simp only[aC,getN,Wr];cases rows[i]? with
   |none=>rfl
   |some row =>
    simp only[Wc,V9,Wr];cases row[c]? with
    |none=>rfl
    |some u=>simp only[Wc,V9];exact wT st u
theorem NQ {f:DT→Option DT}{f':T Unit→Option (T Unit)}(hf:∀t,f' t.er=(f t).map T.er):∀(st:List (Nat×Nat))(t:DT),gl f' t.er st=(gl f t st).map T.er
 |[],t=>by simp only[gl];exact hf t
 |(i,c)::st,t=>by
  cases t with
  |v x=>rfl
  |any=>rfl
  |s k d z rows =>
   simp only[aC,gl,Wr];cases rows[i]? with
   |none=>rfl
   |some row =>
    simp only[Wc,V9,Wr];cases row[c]? with
    |none=>rfl
    |some u =>
     simp only[Wc,V9];rw[NQ hf st u];cases gl f u st with
     |none=>rfl
     |some u'=>simp[aC,Ye]
theorem sr (D:DSt)(h c:Nat)(st:List (Nat×Nat)):cX (erD D) h c st=(cX D h c st).map T.er:=by
 unfold cX;rw[lf];cases av D h c with
 |none=>rfl
 |some t=>simp only[Wc,V9];exact wT st t
theorem qZ {f:DT→Option DT}{f':T Unit→Option (T Unit)}(hf:∀t,f' t.er=(f t).map T.er)(D:DSt)(h c:Nat)(st:List (Nat×Nat)):
  dL f' (erD D) h c st=(dL f D h c st).map erD:=by
 unfold dL;rw[lf];cases av D h c with
 |none=>rfl
 |some t =>
  simp only[Wc,V9];rw[NQ hf];cases gl f t st with
  |none=>rfl
  |some t'=>simp only[Wc,V9];exact JE D h c t'
theorem QC (D:DSt)(t:Nat):uu (erD D) t=(uu D t).map Sl.er:=by
 unfold uu;rw[cf];cases D[t]? with
 |none=>rfl
 |some s =>
  cases s with
  |one u =>
   cases u with
   |s k d z rows=>cases k<;>simp[Sl.er,aC]
   |_=>rfl
  |agg ts =>
   simp only[Wc,Sl.er,WO,Sl.agg.injEq];apply XC;intro i;simp only[XV,Wr,Xc];cases ts[i]? with
   |none=>rfl
   |some u=>simp[S4]
  |_=>rfl
theorem QH (D:DSt)(x:Operand):opd () (erD D) x=(opd nilD D x).map Sl.er:=by
 cases x with
 |tmp t=>exact QC D t
 |const v =>
  simp only[opd];unfold Fi;split
  ·simp[Sl.er,aC]
  ·rfl
  ·split<;>simp[Sl.er,dz]
 |func f=>simp[opd,Sl.er]
 |global g=>rfl
theorem cE (D:DSt)(x:Operand):opd mkU.nil (erD D) x=(opd mkD.nil D x).map Sl.er:=QH D x
theorem L1 (D:DSt)(h o n:Nat):boxRange (erD D) h o n=(boxRange D h o n).map erL:=by
 unfold boxRange;rw[cf];cases D[h]? with
 |none=>rfl
 |some s =>
  cases s with
  |box b ts=>simp only[Wc,Sl.er,WH];split<;>simp[X2,X3]
  |_=>rfl
theorem L7 (D:DSt)(h c:Nat)(st:List (Nat×Nat))(i o n:Nat):rowRange (erD D) h c st i o n=(rowRange D h c st i o n).map erL:=by
 unfold rowRange;rw[lf];cases av D h c with
 |none=>rfl
 |some t =>
  simp only[Wc,dw];split
  ·rw[wT];cases getN t st with
   |none=>rfl
   |some u =>
    cases u with
    |s k d z rows =>
     simp only[Wc,aC,Wr];cases rows[i]? with
     |none=>rfl
     |some row=>simp only[Wc,V9,WH];split<;>simp[X2,X3]
    |_=>rfl
  ·rfl
theorem QF (D:DSt)(ti:TI)(s:DSl):ki (erD D) ti s.er=(ki D ti s).map Sl.er:=by
 cases s with
 |pb h o =>
  simp only[Sl.er,ki,L1];cases boxRange D h o ti.size with
  |none=>rfl
  |some cs =>
   simp only[Wc,V9];split
   ·simp only[Wc,Sl.er,WO,Sl.agg.injEq];apply XC;intro i;simp only[XV,Wr,Xc];cases cs[i]? with
    |none=>rfl
    |some u=>simp[S4]
   ·match cs with
    |[]=>rfl
    |[u]=>
     cases u with
     |s k d z rows=>cases k<;>simp[erL,aC,Sl.er]
     |_=>rfl
    |u::v::r=>simp[erL]
 |pe h c st i o =>
  simp only[Sl.er,ki,L7];cases rowRange D h c st i o ti.size with
  |none=>rfl
  |some cs =>
   simp only[Wc,V9];split
   ·simp only[Wc,Sl.er,uw]
   ·match cs with
    |[]=>rfl
    |[u]=>
     cases u with
     |s k d z rows=>cases k<;>simp[erL,aC,Sl.er,T.view]
     |_=>rfl
    |u::v::r=>simp[erL]
 |im k b ts o =>
  simp only[Sl.er,ki,WH];split
  ·split
   ·simp only[Wc,Sl.er,uw,erL,X2,X3]
   ·simp only[erL, ←X3, ←X2]
    match(ts.drop o).take ti.size with
    |[]=>rfl
    |[u]=>simp[Sl.er,NR]
    |u::v::r=>rfl
  ·rfl
 |_=>rfl
theorem JA (D:DSt)(h c:Nat)(st:List (Nat×Nat)):qz (erD D) h c st=qz D h c st:=by
 unfold qz;rw[sr];cases cX D h c st with
 |none=>rfl
 |some t =>
  cases t with
  |s k d z rows=>simp[aC]
  |_=>rfl
theorem OK (D:DSt)(tab:Tab)(t:Nat)(x:DSl)(lo hi:Option Int):mb mkU (erD D) tab t x.er lo hi=(mb mkD D tab t x lo hi).map Sl.er:=by
 cases x with
 |one u =>
  cases u with
  |v y =>
   cases y<;>simp only[Sl.er,dz,mb]<;>first|rfl|skip
   split
   ·split<;>simp[Sl.er,dz]
   ·rfl
  |any=>rfl
  |s k d z rows =>
   simp only[Sl.er,aC,mb,WH];split
   ·rfl
   ·split
    ·split
     ·split
      ·simp[Sl.er,aC,mkU]
      ·rfl
     ·rfl
    ·rfl
 |al h c st l len =>
  simp only[Sl.er,mb,JA];split
  ·split
   ·split<;>simp[Sl.er]
   ·rfl
  ·rfl
 |_=>rfl
theorem Fm (D:DSt)(tab:Tab)(t:Nat)(x:DSl)(i:Int):i7 mkU (erD D) tab t x.er i=(i7 mkD D tab t x i).map Sl.er:=by
 unfold i7;split
 ·cases x with
  |one u =>
   cases u with
   |v y=>rfl
   |any=>rfl
   |s k d z rows =>
    simp only[Sl.er,aC,Wr];split
    ·rfl
    ·split
     ·split
      ·cases rows[i.toNat]? with
       |none=>rfl
       |some row=>simp[Sl.er]
      ·rfl
     ·rfl
  |al h c st lo len =>
   simp only[Sl.er,JA];split
   ·split<;>simp[Sl.er]
   ·rfl
  |_=>rfl
 ·rfl
theorem Fl (tab:Tab)(t:Nat)(x:DSl)(f:Nat):lS tab t x.er f=(lS tab t x f).map Sl.er:=by
 unfold lS;split
 ·rename_i offs _;cases offs[f]? with
  |none=>rfl
  |some o=>cases x<;>rfl
 ·rfl
theorem Sq (tab:Tab)(t:Nat)(x:DSl):yl tab t x.er=yl tab t x:=by
 unfold yl;split
 ·cases x with
  |one u =>
   cases u with
   |s k d z rows=>simp[Sl.er,aC]
   |_=>rfl
  |_=>rfl
 ·cases x with
  |one u =>
   cases u with
   |s k d z rows=>simp[Sl.er,aC]
   |v y=>cases y<;>rfl
   |any=>rfl
  |_=>rfl
 ·rfl
theorem Ss (x:DSl):EC x.er=EC x:=by cases x<;>rfl
theorem QI (D:DSt)(x:Option Operand):jG () (erD D) x=jG nilD D x:=by
 cases x with
 |none=>rfl
 |some x =>
  simp only[jG,QH];cases opd nilD D x with
  |none=>rfl
  |some s =>
   cases s with
   |one u =>
    cases u with
    |s k d z rows=>simp[Sl.er,aC]
    |v y=>cases y<;>rfl
    |any=>rfl
   |_=>rfl
theorem OG (D:DSt)(x:Option Operand):jG mkU.nil (erD D) x=jG mkD.nil D x:=QI D x
theorem Sn (tab:Tab)(D:DSt)(c:Call):DS mkU tab (erD D) c=(DS mkD tab D c).map Sl.er:=by
 unfold DS;split
 ·rename_i x t _ _ _;rw[cE];cases opd mkD.nil D x with
  |none=>rfl
  |some s =>
   simp only[Wc,V9,Sq];cases yl tab t s with
   |none=>rfl
   |some n=>rfl
 ·rename_i x y _ _;simp only[cE];cases g:opd mkD.nil D x with
  |none=>rfl
  |some e =>
   cases h:opd mkD.nil D y with
   |none=>cases e with
    |one u=>cases u with
     |s k d z rows=>simp[Sl.er,aC]
     |v a=>cases a<;>rfl
     |any=>rfl
    |_=>rfl
   |some f =>
    cases e with
    |one u =>
     cases u with
     |s k d z rows=>simp[Sl.er,aC]
     |any=>rfl
     |v a =>
      cases f with
      |one v=>cases v with
       |s k d z rows=>cases a<;>simp[Sl.er,aC,dz]
       |any=>cases a<;>rfl
       |v b=>cases a<;>cases b<;>rfl
      |_=>cases a<;>rfl
    |_=>rfl
 ·rename_i x y _ _;simp only[cE];cases g:opd mkD.nil D x with
  |none=>rfl
  |some e =>
   cases h:opd mkD.nil D y with
   |none=>cases e with
    |one u=>cases u with
     |s k d z rows=>simp[Sl.er,aC]
     |v a=>cases a<;>rfl
     |any=>rfl
    |_=>rfl
   |some f =>
    cases e with
    |one u =>
     cases u with
     |s k d z rows=>simp[Sl.er,aC]
     |any=>rfl
     |v a =>
      cases f with
      |one v=>cases v with
       |s k d z rows=>cases a<;>simp[Sl.er,aC,dz]
       |any=>cases a<;>rfl
       |v b=>cases a<;>cases b<;>rfl
      |_=>cases a<;>rfl
    |_=>rfl
 ·rfl
theorem TW (us:List DT)(off:Nat):(erL us)[off]?=(us[off]?).map T.er:=by simp[erL]
theorem DM (tab:Tab)(us c:List DT):∀l,kG tab (erL us) (erL c) l=kG tab us c l
 |[]=>rfl
 |(off,e)::r=>by
  simp only[kG,TW];cases tab.ti e with
  |none=>rfl
  |some ti =>
   cases us[off]? with
   |none=>rfl
   |some u =>
    cases c[off]? with
    |none=>cases u with
     |s k d z rows=>simp[aC]
     |_=>rfl
    |some v =>
     cases u with
     |s k d z rows=>simp[aC]
     |any=>rfl
     |v a =>
      cases v with
      |s k d z rows=>simp[aC,dz]
      |any=>rfl
      |v b=>simp only[Wc,dz,DM tab us c r]
theorem TU (tab:Tab)(op:BinOp)(t:Nat)(us a:List DT):eqS tab op t (erL us) (erL a)=eqS tab op t us a:=by
 have:kG tab (erL us) (erL a)=kG tab us a:=funext fun l=>DM tab us a l
 unfold eqS;rw[this]
theorem CT (tab:Tab)(D:DSt)(op:Op):b9 mkU tab (erD D) op=(b9 mkD tab D op).map Sl.er:=by
 cases op with
 |move x=>exact cE D x
 |assign x=>exact cE D x
 |pick c x y =>
  simp only[b9,cE];cases opd mkD.nil D c with
  |none=>rfl
  |some s =>
   cases s with
   |one u =>
    cases u with
    |s k d z rows=>simp[Sl.er,aC]
    |any=>rfl
    |v b=>(cases b<;>first|rfl|skip);rename_i b;cases b<;>rfl
   |_=>rfl
 |nilCheck x =>
  simp only[b9,cE];cases opd mkD.nil D x with
  |none=>rfl
  |some s=>simp only[Wc,V9,Ss];split<;>rfl
 |binOp op t x y ty =>
  simp only[b9,cE];cases n:opd mkD.nil D x with
  |none=>rfl
  |some e =>
   cases o:opd mkD.nil D y with
   |none=>cases e with
    |one u=>cases u with
     |s k d z rows=>simp[Sl.er,aC]
     |v a=>first|rfl|(cases a<;>rfl)
     |any=>rfl
    |_=>rfl
   |some j =>
    cases e with
    |one u =>
     cases u with
     |s k d z rows=>simp[Sl.er,aC]
     |any=>rfl
     |v a =>
      cases j with
      |one v=>cases v with
       |s k d z rows=>first|(simp[Sl.er,aC,dz];done)|(cases a<;>simp[Sl.er,aC,dz])
       |any=>first|rfl|(cases a<;>rfl)
       |v b=>simp only[Wc,Sl.er,dz,Xc];rfl
      |_=>first|rfl|(cases a<;>rfl)
    |agg us =>
     cases j with
     |agg w =>simp only[Wc,Sl.er,TU,Xc];rfl
     |one v=>cases v<;>rfl
     |_=>rfl
    |_=>rfl
 |unOp op t x =>
  simp only[b9,cE];cases opd mkD.nil D x with
  |none=>rfl
  |some s =>
   cases s with
   |one u =>
    cases u with
    |s k d z rows=>simp[Sl.er,aC]
    |any=>rfl
    |v b=>cases b<;>first|rfl|(cases op<;>rfl)
   |_=>rfl
 |convert p dst x =>
  simp only[b9,cE];cases opd mkD.nil D x with
  |none=>rfl
  |some s =>
   cases s with
   |one u =>
    cases u with
    |s k d z rows=>simp[Sl.er,aC]
    |any=>rfl
    |v b =>
     cases b<;>first|rfl|skip
     simp only[Wc,Sl.er,dz];split<;>simp_all[Sl.er,dz]
   |_=>rfl
 |load t x =>
  simp only[b9,cE];cases opd mkD.nil D x with
  |none=>rfl
  |some s =>
   cases tab.ti t with
   |none=>rfl
   |some ti=>simp only[Wc];split<;>first|rfl|exact QF D ti s
 |fieldAddr t x f =>
  simp only[b9,cE];cases opd mkD.nil D x with
  |none=>rfl
  |some s=>simp only[Wc,V9];exact Fl tab t s f
 |indexAddr t x i =>
  simp only[b9,cE];cases n:opd mkD.nil D x with
  |none=>rfl
  |some e =>
   cases hi:opd mkD.nil D i with
   |none=>rfl
   |some q =>
    cases q with
    |one u =>
     cases u with
     |s k d z rows=>simp[Sl.er,aC]
     |any=>rfl
     |v b =>
      cases b<;>first|rfl|skip
      exact Fm D tab t e _
    |_=>rfl
 |index t x y =>
  simp only[b9,cE];cases n:opd mkD.nil D x with
  |none=>rfl
  |some e =>
   cases o:opd mkD.nil D y with
   |none=>cases e with
    |one u=>cases u with
     |s k d z rows=>simp[Sl.er,aC]
     |v a=>cases a<;>rfl
     |any=>rfl
    |clo g hs=>cases g<;>rfl
    |_=>rfl
   |some j =>
    cases e with
    |clo g hs =>
     cases g with
     |fn f=>rfl
     |arr offs =>
      cases j with
      |one v=>cases v with
       |s k d z rows=>simp[Sl.er,aC]
       |any=>rfl
       |v b =>
        cases b<;>first|rfl|skip
        simp only[Wc,Sl.er,dz];split
        ·split<;>simp_all[Sl.er]
        ·rfl
      |_=>rfl
    |one u =>
     cases u with
     |s k d z rows=>simp[Sl.er,aC]
     |any=>rfl
     |v a =>
      cases a<;>first|rfl|skip
      cases j with
      |one v=>cases v with
       |s k d z rows=>simp[Sl.er,aC,dz]
       |any=>rfl
       |v b =>
        cases b<;>first|rfl|skip
        simp only[Wc,Sl.er,dz];split
        ·split<;>simp[Sl.er,dz]
        ·rfl
      |_=>rfl
    |_=>rfl
 |slice t x lo hi r =>
  cases r with
  |some m=>rfl
  |none =>
   simp only[b9,cE,OG];cases n:opd mkD.nil D x with
   |none=>rfl
   |some e =>
    cases jG mkD.nil D lo with
    |none=>rfl
    |some l =>
     cases jG mkD.nil D hi with
     |none=>rfl
     |some h=>exact OK D tab t e l h
 |call c=>exact Sn tab D c
 |_=>rfl
theorem JF (k:Kd)(d:Dec)(z lo len:Nat)(rows:List (List DT)):(T.s k (mkD.win d lo z) z ((rows.drop lo).take len):DT).er = .s k (mkU.win () lo z) z (((rows.map erL).drop lo).take len):=by rw[aC,X2,X3];try rfl
theorem kH (D:DSt)(x:Operand):cellsCopy mkU (erD D) x=(cellsCopy mkD D x).map fun p=>(p.1,erL p.2):=by
 simp only[cellsCopy,cE];cases opd mkD.nil D x with
 |none=>rfl
 |some s =>
  cases s with
  |al h c st lo len =>
   simp only[Wc,Sl.er,sr];split
   ·cases cX D h c st with
    |none=>rfl
    |some t =>
     cases t with
     |s k d z rows=>simp only[Wc,aC];rw[←JF];rfl
     |_=>rfl
   ·rfl
  |_=>rfl
theorem jw (f:DT→Bool)(g:T Unit→Bool)(h:∀t,g t.er=f t)(ts:List DT):(erL ts).all g=ts.all f:=by simp only[erL,Xi];congr 1;funext t;exact h t
theorem jx (D:DSt)(x:Operand):cellsTake mkU (erD D) x=(cellsTake mkD D x).map fun p=>(p.1,erL p.2.1,erD p.2.2):=by
 cases x with
 |tmp t =>
  simp only[cellsTake,cf];cases D[t]? with
  |none=>rfl
  |some s =>
   cases s with
   |one u=>simp only[Wc,Sl.er,dw];split<;>simp[kb]
   |agg ts =>simp only[Wc,Sl.er,jw T.noLent T.noLent lg];split<;>simp[kb]
   |al h c st lo len =>
    simp only[Wc,Sl.er,sr];split
    ·cases cX D h c st with
     |none=>rfl
     |some n =>
      cases n with
      |s k d z rows =>
       cases k with
       |own =>
        simp only[Wc,aC];rw[←mF,qZ (f:=fun _=>some .any) (f':=fun _=>some .any) (fun t=>rfl)];cases dL (fun _=>some .any) (St.dead (dm h c) (qHC h c) D) h c st with
        |none=>rfl
        |some D'=>simp only[Wc];rw[←JF];rfl
       |_=>simp[aC]
      |_=>rfl
    ·rfl
   |_=>rfl
 |_=>rfl
theorem DL (D:DSt)(x:Operand)(tk:Bool):cellsOf mkU (erD D) x tk=(cellsOf mkD D x tk).map fun p=>(p.1,erL p.2.1,erD p.2.2):=by
 unfold cellsOf;split
 ·exact jx D x
 ·rw[kH];cases cellsCopy mkD D x<;>rfl
theorem wV (g:Bool)(ts:List DT):(iR g (erL ts):Option (Sl Unit Unit))=(iR g ts:Option DSl).map Sl.er:=by
 cases g with
 |true=>rfl
 |false =>
  match ts with
  |[]=>rfl
  |[t]=>rfl
  |t::u::r=>rfl
theorem mH (l:List DT)(o:Nat)(new:List DT):erL (aD l o new)=aD (erL l) o (erL new):=by simp[aD,erL,W8,X2,X3]
theorem QN (i off:Nat)(us:List DT)(t:DT):setRow i off (erL us) t.er=(setRow i off us t).map T.er:=by
 cases t with
 |s k d z rows =>
  simp only[aC,setRow,Wr];cases rows[i]? with
  |none=>rfl
  |some row =>
   simp only[Wc,V9,WH];split
   ·simp only[Wc,aC,Ye,mH]
   ·rfl
 |_=>rfl
theorem DQ (D:DSt)(p:DSl)(us:List DT):ju (erD D) p.er (erL us)=(ju D p us).map erD:=by
 cases p with
 |pb h off =>
  simp only[Sl.er,ju,cf];cases D[h]? with
  |none=>rfl
  |some s =>
   cases s with
   |box b ts =>
    simp only[Wc,Sl.er,WH];split
    ·simp only[Wc,gF,Sl.er,mH,mF,xR]
    ·rfl
   |_=>rfl
 |pe h c st i off =>
  simp only[Sl.er,ju,jw T.fine T.fine qY,lf];split
  ·cases av D h c with
   |none=>rfl
   |some t =>
    simp only[Wc,dw,wT];split
    ·cases getN t st with
     |none=>rfl
     |some n =>
      cases n with
      |s k d z rows =>
       simp only[Wc,aC,Wr];cases rows[i]? with
       |none=>rfl
       |some row =>
        simp only[Wc,WH];split
        ·have e:(((erL row).drop off).take us.length).all T.flat=((row.drop off).take us.length).all T.flat:=by rw[←jw T.flat T.flat wS];simp[erL,X2,X3]
         rw[e, ←mF];exact qZ (fun t=>QN i off us t) _ h c st
        ·rfl
      |_=>rfl
    ·rfl
  ·rfl
 |_=>rfl
theorem OL (tab:Tab)(D:DSt)(t:Nat)(p x:Operand)(tk:Bool):rJ mkU tab (erD D) t p x tk=(rJ mkD tab D t p x tk).map erD:=by
 simp only[rJ,DL];cases tab.ti t with
 |none=>rfl
 |some ti =>
  cases cellsOf mkD D x tk with
  |none=>rfl
  |some r =>
   obtain⟨g,us,D1⟩:=r;simp only[Wc,WH];split
   ·rw[cE];cases opd mkD.nil D1 p with
    |none=>rfl
    |some q=>simp only[Wc,V9];exact DQ D1 q us
   ·rfl
theorem Jz (t:T Unit):(t.inj nilD).er=t.inj ():=by
 cases t with
 |s k d z rows=>simp[T.inj,aC]
 |_=>rfl
theorem OB (w:World)(tab:Tab)(D:DSt)(dst:Option Nat)(t:Nat):pn mkU frU tab (erD D) dst t=(pn mkD (frD w) tab D dst t).map erD:=by
 simp only[pn];cases tab.ti t with
 |none=>rfl
 |some ti =>
  cases dst with
  |none=>rfl
  |some d =>
   simp only[fC];split
   ·simp only[Wc,cv,Sl.er,erL,WW];have e:ti.zero.map (T.inj mkU.nil)=ti.zero.map (T.er ∘ T.inj mkD.nil):=WT fun t _=>(Jz t).symm
    rw[e]
   ·rfl
theorem Si (w:World)(D:DSt)(dst:Option Nat)(x:Operand)(tk:Bool):Bw mkU frU (erD D) dst x tk=(Bw mkD (frD w) D dst x tk).map erD:=by
 simp only[Bw,DL];cases cellsOf mkD D x tk with
 |none=>rfl
 |some r =>
  obtain⟨g,us,D1⟩:=r;cases dst with
  |none=>rfl
  |some d =>
   simp only[Wc,fC];split
   ·simp only[Wc,cv,Sl.er];try rfl
   ·rfl
theorem B1 (D:DSt)(x:Operand)(dst:Option Nat):
  ((cellsTake mkU (erD D) x).bind fun r=>match dst with|some t=>if t<r.2.2.length then(iR r.1 r.2.1).map fun s=>ba r.2.2 (some t) s else none|none=>none)=
   ((cellsTake mkD D x).bind fun r=>match dst with|some t=>if t<r.2.2.length then(iR r.1 r.2.1).map fun s=>ba r.2.2 (some t) s else none|none=>none).map erD:=by
 rw[jx];cases cellsTake mkD D x with
 |none=>rfl
 |some r =>
  obtain⟨g,us,D1⟩:=r;cases dst with
  |none=>rfl
  |some d =>
   simp only[Wc,V9,fC,wV];split
   ·cases(iR g us:Option DSl)with
    |none=>rfl
    |some s=>simp only[Wc,cv]
   ·rfl
theorem L6 (tab:Tab)(D:DSt)(t:Nat)(x:Operand):lu mkU tab (erD D) t x=(lu mkD tab D t x).map fun r=>(r.1,erL r.2.1,erD r.2.2):=by
 unfold lu;rw[cE];cases tab.ti t with
 |none=>rfl
 |some ti =>
  cases a:opd mkD.nil D x with
  |none=>rfl
  |some s =>
   cases s with
   |pb h off =>
    cases off with
    |zero =>
     simp only[Wc,Sl.er,cf];cases D[h]? with
     |none=>rfl
     |some u =>
      cases u with
      |box b ts =>
       simp only[Wc,Sl.er,WH];have e:(erL ts).all T.noLent=ts.all T.noLent:=by
        rw[Xi];congr 1;funext u;cases u with
        |s k d z r=>cases k<;>simp[aC,T.noLent]
        |_=>rfl
       rw[e];split
       ·simp[kb]
       ·rfl
      |_=>rfl
    |succ n=>rfl
   |one u=>simp[Sl.er]
   |_=>rfl
theorem L5 (tab:Tab)(D:DSt)(t:Nat)(x:Operand)(dst:Option Nat):
  ((lu mkU tab (erD D) t x).bind fun r=>match dst with|some t=>if t<r.2.2.length then(iR r.1 r.2.1).map fun s=>ba r.2.2 (some t) s else none|none=>none)=
   ((lu mkD tab D t x).bind fun r=>match dst with|some t=>if t<r.2.2.length then(iR r.1 r.2.1).map fun s=>ba r.2.2 (some t) s else none|none=>none).map erD:=by
 rw[L6];cases lu mkD tab D t x with
 |none=>rfl
 |some r =>
  obtain⟨g,us,D1⟩:=r;cases dst with
  |none=>rfl
  |some d =>
   simp only[Wc,V9,fC,wV];split
   ·cases(iR g us:Option DSl)with
    |none=>rfl
    |some s=>simp only[Wc,cv]
   ·rfl
theorem lR (tab:Tab)(D:DSt)(op:Op)(dst:Option Nat):((b9 mkU tab (erD D) op).bind fun s=>eU (erD D) dst s)=((b9 mkD tab D op).bind fun s=>eU D dst s).map erD:=by
 rw[CT];cases b9 mkD tab D op with
 |none=>rfl
 |some s=>simp only[Wc,V9];exact pr D dst s
theorem z7 (D:DSt)(z:Nat):∀(a:List (Nat×Operand))(rows:List (List DT)),lc mkU (erD D) z a (rows.map erL)=(lc mkD D z a rows).map (List.map erL)
 |[],rows=>rfl
 |(i,x)::r,rows=>by
  simp only[lc,kH];cases cellsCopy mkD D x with
  |none=>rfl
  |some b =>
   obtain⟨g,us⟩:=b;simp only[Wc,WH,jw T.fine T.fine qY];split
   ·have e:(rows.map erL).set i (erL us)=(rows.set i us).map erL:=by rw[Ye]
    rw[e];exact z7 D z r _
   ·rfl
theorem q9 (ti:TI):ti.zero.map (T.inj mkU.nil)=erL (ti.zero.map (T.inj mkD.nil)):=by simp only[erL,WW];exact WT fun t _=>(Jz t).symm
theorem vp (w:World)(tab:Tab)(D:DSt)(dst:Option Nat)(t len:Nat)(a:List (Nat×Operand)):fb mkU frU tab (erD D) dst t len a=(fb mkD (frD w) tab D dst t len a).map erD:=by
 unfold fb;split
 ·rename_i sz c h e d f;cases tab.ti e with
  |none=>rfl
  |some b =>
   simp only[fC];split
   ·have g:List.replicate len (b.zero.map (T.inj mkU.nil))=(List.replicate len (b.zero.map (T.inj mkD.nil))).map erL:=by rw[YL,q9]
    rw[g,z7];cases lc mkD D b.size a (List.replicate len (b.zero.map (T.inj mkD.nil)))with
    |none=>rfl
    |some rows=>simp only[Wc,cv,Sl.er,aC]
   ·rfl
 ·rfl
theorem OF (s:DSl):intOfSl s.er=intOfSl s:=by
 cases s with
 |one u =>
  cases u with
  |s k d z r=>simp[Sl.er,aC,intOfSl]
  |v x=>cases x<;>rfl
  |any=>rfl
 |_=>rfl
theorem JB (D:DSt)(x:Operand):(opd mkU.nil (erD D) x).bind intOfSl=(opd mkD.nil D x).bind intOfSl:=by
 rw[cE];cases opd mkD.nil D x with
 |none=>rfl
 |some s=>exact OF s
theorem wU (w:World)(tab:Tab)(D:DSt)(dst:Option Nat)(t:Nat)(l c:Operand):fd mkU frU tab (erD D) dst t l c=(fd mkD (frD w) tab D dst t l c).map erD:=by
 unfold fd;rw[JB,JB];split
 ·rename_i sz b h e d n k f i hc;cases tab.ti e with
  |none=>rfl
  |some a =>
   simp only[fC];split
   ·split
    ·have g:List.replicate n.toNat (a.zero.map (T.inj mkU.nil))=(List.replicate n.toNat (a.zero.map (T.inj mkD.nil))).map erL:=by rw[YL,q9]
     rw[g];simp only[Wc,cv,Sl.er,aC]
    ·rfl
   ·rfl
 ·rfl
theorem Tn (t:DT):t.hole.er=t.er.hole:=by
 cases t with
 |s k d z r=>cases k<;>simp[T.hole,aC,wR]
 |_=>rfl
theorem Jv (D:DSt)(dst:Option Nat)(x:Operand)(i:Nat):pv (erD D) dst x i=(pv D dst x i).map erD:=by
 cases x with
 |tmp t =>
  cases dst with
  |none=>rfl
  |some d =>
   simp only[pv,cf];cases D[t]? with
   |none=>rfl
   |some s =>
    cases s with
    |tup rs =>
     simp only[Wc,Sl.er,Wr];cases rs[i]? with
     |none=>rfl
     |some r =>
      obtain⟨g,ts⟩:=r;simp only[Wc,fC,jw T.noLent T.noLent lg];split
      ·rw[wV];cases(iR g ts:Option DSl)with
       |none=>rfl
       |some s =>
        simp only[Wc,cv,gF,Sl.er,Ye];have e:erL (ts.map T.hole)=(erL ts).map T.hole:=by simp only[erL,WW];exact WT fun t _=>Tn t
        rw[e]
      ·rfl
    |_=>rfl
 |_=>cases dst<;>rfl
theorem lG (D:DSt)(pl:List (Nat×Nat)):∀(a:List (Nat×Operand))(ts:List DT),cz mkU (erD D) pl a (erL ts)=(cz mkD D pl a ts).map erL
 |[],ts=>rfl
 |(i,x)::r,ts=>by
  simp only[cz,kH];cases pl[i]? with
  |none=>rfl
  |some q =>
   obtain⟨off,size⟩:=q;cases cellsCopy mkD D x with
   |none=>rfl
   |some b =>
    obtain⟨g,us⟩:=b;simp only[Wc,WH];split
    ·rw[←mH];exact lG D pl r _
    ·rfl
theorem DK (tab:Tab)(D:DSt)(t:Nat)(a:List (Nat×Operand)):m9 mkU tab (erD D) t a=(m9 mkD tab D t a).map Sl.er:=by
 simp only[m9];cases tab.ti t with
 |none=>rfl
 |some ti =>
  cases tab.pl t with
  |none=>rfl
  |some pl =>
   have e:ti.zero.map (T.inj mkU.nil)=erL (ti.zero.map (T.inj mkD.nil)):=by simp only[erL,WW];exact WT fun t _=>(Jz t).symm
   simp only;rw[e,lG];cases cz mkD D pl a (ti.zero.map (T.inj mkD.nil))<;>rfl
theorem xU (D:DSt)(x:Operand):lQ (erD D) x=lQ D x:=by
 cases x with
 |tmp t =>
  simp only[lQ,cf];cases D[t]? with
  |none=>rfl
  |some s =>
   cases s with
   |pb h off=>cases off<;>rfl
   |_=>rfl
 |_=>rfl
theorem BZ (D:DSt):∀(xs:List Operand),oX (erD D) xs=oX D xs
 |[]=>rfl
 |x::xs=>by simp only[oX,xU,BZ D xs]
theorem Sm (D:DSt)(f:FuncId)(xs:List Operand):xK (erD D) f xs=(xK D f xs).map Sl.er:=by unfold xK;rw[BZ,Xc];rfl
theorem OA (rows:List (List DT)):(rows.map erL).all (fun r=>r.all T.flat)=rows.all (fun r=>r.all T.flat):=by rw[Xi];congr 1;funext r;show(erL r).all T.flat=_;rw[Xi];congr 1;funext t;exact wS t
theorem Tk (D:DSt)(b:Bool)(x:Operand):xJ mkU (erD D) b x=(xJ mkD D b x).map fun p=>(p.1,p.2.1.map erL,erD p.2.2):=by
 unfold xJ;cases b with
 |true =>
  simp only[kH];cases cellsCopy mkD D x with
  |none=>rfl
  |some r =>
   obtain⟨g,ts⟩:=r;cases g with
   |true=>rfl
   |false =>
    match ts with
    |[]=>rfl
    |[.v v]=>rfl
    |[.any]=>rfl
    |u::v::r=>(cases u with|s k d z e=>simp[aC]|_=>rfl)
    |[.s i f z2 a]=>simp only[Wc,Wv,WM,aC,OA];split<;>rfl
 |false =>
  simp only[jx];cases cellsTake mkD D x with
  |none=>rfl
  |some r =>
   obtain⟨g,ts,j⟩:=r;cases g with
   |true=>rfl
   |false =>
    match ts with
    |[]=>rfl
    |[.v v]=>rfl
    |[.any]=>rfl
    |[.s .far d z rows]=>simp[aC]
    |[.s (.lent h c b) d z rows]=>simp[aC]
    |u::v::r=>(cases u with|s k d z e=>(cases k<;>simp[aC])|_=>rfl)
    |[.s .own f z2 a]=>simp[aC]
theorem LZ (w:World)(tab:Tab)(D:DSt)(dst:Option Nat)(t t2:Nat)(s x:Operand):mB mkU frU tab (erD D) dst t t2 s x=(mB mkD (frD w) tab D dst t t2 s x).map erD:=by
 unfold mB;rw[jx];cases hs:cellsTake mkD D s with
 |none =>
  cases tab.ti t with
  |none=>rfl
  |some ti =>
   obtain⟨_,_,_,sh⟩:=ti;cases sh<;>try rfl
   cases tab.ti t2 with
   |none=>rfl
   |some a =>
    obtain⟨_,_,_,b⟩:=a;cases b<;>try rfl
    cases dst<;>rfl
 |some r =>
  obtain⟨g,ts,D1⟩:=r;cases tab.ti t with
  |none=>rfl
  |some ti =>
   obtain⟨_,_,_,sh⟩:=ti;cases sh<;>try rfl
   rename_i e;cases tab.ti t2 with
   |none=>rfl
   |some a =>
    obtain⟨_,_,_,b⟩:=a;cases b<;>try rfl
    cases dst with
    |none=>rfl
    |some l =>
     cases g with
     |true=>rfl
     |false =>
      match ts with
      |[]=>rfl
      |[.v v]=>rfl
      |[.any]=>rfl
      |[.s .far d z rows]=>simp[aC]
      |[.s (.lent h c m) d z rows]=>simp[aC]
      |u::v::r=>(cases u with|s k d z n=>(cases k<;>simp[aC])|_=>rfl)
      |[.s .own d z rows]=>
       simp only[Wc,Wv,WM,aC];cases tab.ti e with
       |none=>rfl
       |some i =>
        simp only[Tk];cases xJ mkD D1 (i.zero.all T.flat) x with
        |none=>rfl
        |some j =>
         obtain⟨z2,f,o⟩:=j;simp only[Wc,fC,WH];split
         ·split
          ·simp only[Wc,cv,Sl.er,aC,W8]
          ·rfl
         ·rfl
theorem Aa:∀(rows:List (List DT)),eR (rows.map erL)=eR rows
 |[]=>rfl
 |r::rs=>by
  match r with
  |[]=>rfl
  |u::v::q =>
   cases u with
   |v x =>
    cases x with
    |int k n=>cases k<;>simp[eR,dz]
    |_=>simp[eR,dz]
   |any=>simp[eR,wR]
   |s k d z r=>simp[eR,aC]
  |[.any]=>rfl
  |[.s k d z rows]=>simp[aC,eR]
  |[.v (.int .u8 n)]=>simp only[Wv,WM,dz,eR,Aa rs]
  |[.v x]=>
   cases x with
   |int k n=>cases k<;>first|rfl|simp only[Wv,WM,dz,eR,Aa rs]
   |_=>rfl
theorem L2 (tab:Tab)(D:DSt)(a dst:Nat)(x:Operand):mC mkU tab (erD D) a dst x=(mC mkD tab D a dst x).map (List.map erL):=by
 unfold mC;rw[kH];cases tab.ti a with
 |none=>rfl
 |some ti =>
  obtain⟨_,_,_,sh⟩:=ti;cases sh<;>try rfl
  rename_i e;cases tab.ti dst with
  |none=>rfl
  |some b =>
   obtain⟨_,_,_,c⟩:=b;cases c<;>try rfl
   cases cellsCopy mkD D x with
   |none=>rfl
   |some r =>
    obtain⟨g,ts⟩:=r;cases g with
    |true=>rfl
    |false =>
     match ts with
     |[]=>rfl
     |[.v v]=>rfl
     |[.any]=>rfl
     |u::v::r=>(cases u with|s k d z f=>simp[aC]|_=>rfl)
     |[.s k d z rows]=>
      simp only[Wc,Wv,WM,aC];by_cases hz:z=1
      ·subst hz;simp only;split
       ·rfl
       ·rfl
      ·simp[hz]
theorem DR (D:DSt)(x:Operand):j6 (erD D) x=(j6 D x).map (List.map fun r=>(r.1,erL r.2)):=by
 unfold j6;cases x with
 |tmp t =>
  simp only[cf];cases D[t]? with
  |none=>rfl
  |some s =>
   cases s with
   |tup rs =>
    simp only[Wc,Sl.er];have a:((rs.map fun r=>(r.1,erL r.2)).all fun r=>r.2.all T.flat)=rs.all fun r=>r.2.all T.flat:=by rw[Xi];congr 1;funext r;show(erL r.2).all T.flat=_;rw[Xi];congr 1;funext u;exact wS u
    have b:(rs.map fun r=>(r.1,erL r.2))≠[]↔rs≠[]:=by cases rs<;>simp
    by_cases h:(rs.all fun r=>r.2.all T.flat)=true∧rs≠[]
    ·rw[Wa h,Wa ⟨a.trans h.1,b.2 h.2⟩];rfl
    ·rw[Wo h,Wo (fun g=>h ⟨a.symm.trans g.1,b.1 g.2⟩)];rfl
   |_=>rfl
 |_=>rfl
theorem ON (D:DSt)(x:Operand)(dst:Option Nat):nQ (erD D) x dst=(nQ D x dst).map erD:=by
 cases x with
 |tmp t =>
  cases dst with
  |none=>rfl
  |some d =>
   simp only[nQ,cf];cases D[t]? with
   |none=>rfl
   |some s =>
    cases s with
    |tup rs =>
     simp only[Wc,Sl.er,fC];have a:((rs.map fun r=>(r.1,erL r.2)).all fun r=>r.2.all T.noLent)=rs.all fun r=>r.2.all T.noLent:=by rw[Xi];congr 1;funext r;exact jw T.noLent T.noLent lg r.2
     rw[a];split
     ·simp only[Wc,cv,gF,Sl.er]
     ·rfl
    |_=>rfl
 |_=>cases dst<;>rfl
theorem OM (s:Y9):(jZ s:List (List DT)).map erL=jZ s:=by unfold jZ;rw[WW];exact WT fun b _=>by simp[dz]
theorem Hw (w:World)(tab:Tab)(D:DSt)(dst:Option Nat)(a t:Nat)(x:Operand):gW mkU frU tab (erD D) dst a t x=(gW mkD (frD w) tab D dst a t x).map erD:=by
 unfold gW;rw[cE];cases tab.ti a with
 |none=>rfl
 |some ti =>
  obtain⟨_,_,_,sh⟩:=ti;cases sh<;>try rfl
  cases tab.ti t with
  |none=>rfl
  |some b =>
   obtain⟨_,_,_,c⟩:=b;cases c<;>try rfl
   rename_i e;cases dst with
   |none=>rfl
   |some d =>
    cases f:opd mkD.nil D x with
    |none=>rfl
    |some s =>
     cases s with
     |one u =>
      cases u with
      |v y =>
       cases y with
       |string s =>
        simp only[Wc,Sl.er,dz,fC];split
        ·split
         ·simp only[Wc,cv,Sl.er,aC,OM]
         ·rfl
        ·rfl
       |_=>rfl
      |any=>rfl
      |s k g z r=>simp[Sl.er,aC]
     |_=>rfl
theorem L9 (tab:Tab)(D:DSt)(t:Nat)(p:Operand)(z:Nat):pi mkU tab (erD D) t p z=(pi mkD tab D t p z).map erD:=by
 unfold pi;cases tab.ti t with
 |none=>rfl
 |some ti =>
  simp only;split
  ·rw[cE];cases opd mkD.nil D p with
   |none=>rfl
   |some a=>exact DQ D a [.s .own nilD z []]
  ·rfl
theorem OH (us:List DT):(erL us).all (fun u=>u.isOwn ||u.flat)=us.all (fun u=>u.isOwn ||u.flat):=by show(us.map T.er).all _=_;rw[Xi];congr 1;funext u;show(u.er.isOwn ||u.er.flat)=_;rw[dw,wS]
theorem Fk (w:World)(tab:Tab)(D:DSt)(dst:Option Nat)(t len:Nat)(a:List (Nat×Operand)):kr mkU frU tab (erD D) dst t len a=(kr mkD (frD w) tab D dst t len a).map erD:=by
 unfold kr;split
 ·rename_i sz b f e d x c;simp only[jx];cases tab.ti e with
  |none=>rfl
  |some h =>
   cases cellsTake mkD D x with
   |none=>rfl
   |some r =>
    obtain⟨g,us,D1⟩:=r;simp only[Wc,fC,WH,OH];split
    ·simp only[Wc,cv,Sl.er,aC,Wv,WM]
    ·rfl
 ·rfl
theorem QB (tab:Tab)(D:DSt)(dst:Option Nat)(t:Nat)(a:List (Nat×Operand)):pL mkU tab (erD D) dst t a=(pL mkD tab D dst t a).map erD:=by
 unfold pL;split
 ·rename_i ti pl i x r d b c;simp only[jx];cases pl[i]? with
  |none=>rfl
  |some os =>
   obtain⟨off,size⟩:=os;cases cellsTake mkD D x with
   |none=>rfl
   |some q =>
    obtain⟨g,us,D1⟩:=q;simp only[Wc,fC,WH];split
    ·have e:aD (ti.zero.map (T.inj mkU.nil)) off (erL us)=erL (aD (ti.zero.map (T.inj mkD.nil)) off us):=by rw[q9,mH]
     rw[e,lG];cases cz mkD D1 pl r (aD (ti.zero.map (T.inj mkD.nil)) off us)with
     |none=>rfl
     |some ts=>simp only[Wc,cv,Sl.er]
    ·rfl
 ·rfl
theorem OI (D:DSt)(x:Operand):rv (erD D) x=rv D x:=by
 cases x with
 |tmp t =>
  simp only[rv,cf];cases D[t]? with
  |none=>rfl
  |some s =>
   simp only[Wc];have a:∀ts:List DT,(erL ts).any T.isOwn=ts.any T.isOwn:=fun ts=>by rw[erL,YC];congr 1;funext t;exact dw t
   cases s with
   |one t=>exact dw t
   |agg ts=>exact a ts
   |tup rs =>simp only[Sl.er,Sl.isHome,YC];congr 1;funext r;exact a r.2
   |_=>rfl
 |_=>rfl
theorem OC (tab:Tab)(D:DSt)(dst:Option Nat)(t:Nat)(a:List (Nat×Operand)):ub mkU tab (erD D) dst t a=(ub mkD tab D dst t a).map erD:=by
 unfold ub;simp only[OI];split
 ·rename_i ti pl i x r d c e f;simp only[jx,q9,lG];cases pl[i]? with
  |none=>rfl
  |some os =>
   obtain⟨off,size⟩:=os;cases cellsTake mkD D x with
   |none=>rfl
   |some q =>
    obtain⟨g,us,D1⟩:=q;cases cz mkD D pl (a.takeWhile (fun p => !rv D p.2)) (ti.zero.map (T.inj mkD.nil))with
    |none=>rfl
    |some b =>
     simp only[Wc,fC,WH,jw T.noLent T.noLent lg];split
     ·rw[←mH,lG];cases cz mkD D1 pl r (aD b off us)with
      |none=>rfl
      |some ts=>simp only[Wc,cv,Sl.er]
     ·rfl
 ·rfl
theorem OD (tab:Tab)(D:DSt)(dst:Option Nat)(t:Nat)(a:List (Nat×Operand)):po mkU tab (erD D) dst t a=(po mkD tab D dst t a).map erD:=by unfold po;rw[QB,OC];cases pL mkD tab D dst t a<;>rfl
theorem Sv (w:World)(tab:Tab)(D:DSt)(o:Oper)(tk:Bool):dx mkU frU tab (erD D) o tk=(dx mkD (frD w) tab D o tk).map erD:=by
 obtain⟨dst,op,ty,pos,after,guard⟩:=o;cases op with
 |store t p x =>
  cases dst with
  |none =>
   simp only[dx];cases uN tab t x with
   |some z=>exact L9 tab D t p z
   |none=>exact OL tab D t p x tk
  |some d=>rfl
 |alloc t=>exact OB w tab D dst t
 |box t x=>exact Si w D dst x tk
 |move x =>
  simp only[dx];cases uN tab ty x with
  |some z=>exact pr D dst (.one (.s .own nilD z []))
  |none =>
   simp only[DR];cases j6 D x with
   |some rs=>exact pr D dst (.tup rs)
   |none =>
    cases tk with
    |true =>
     simp only[WN,ON];cases nQ D x dst with
     |some D'=>rfl
     |none=>exact B1 D x dst
    |false=>exact lR tab D (.move x) dst
 |assign x =>
  simp only[dx];cases uN tab ty x with
  |some z=>exact pr D dst (.one (.s .own nilD z []))
  |none =>
   cases tk with
   |true=>exact B1 D x dst
   |false=>exact lR tab D (.assign x) dst
 |load t x =>
  cases tk with
  |true=>exact L5 tab D t x dst
  |false=>exact lR tab D (.load t x) dst
 |extract x i=>exact Jv D dst x i
 |buildSlice t len a =>
  cases tk with
  |true=>exact Fk w tab D dst t len a.toList
  |false=>exact vp w tab D dst t len a.toList
 |makeSlice t l c=>exact wU w tab D dst t l c
 |call c =>
  simp only[dx];cases wL c with
  |none=>exact lR tab D (.call c) dst
  |some q =>obtain⟨t,t2,s,x⟩:=q;exact LZ w tab D dst t t2 s x
 |convert b d x =>
  simp only[dx];rw[L2];cases mC mkD tab D b d x with
  |none =>
   simp only[Y4];rw[Hw w];cases gW mkD (frD w) tab D dst b d x with
   |none=>exact lR tab D (.convert b d x) dst
   |some e=>rfl
  |some rows =>
   simp only[Wc,Aa];cases eR rows with
   |none=>rfl
   |some xs=>simp only[V9];exact pr D dst (.one (.v (.string (strOfNums xs))))
 |makeFunc fn first caps =>
  cases fn with
  |func f =>
   simp only[dx];split
   ·rw[Sm];cases xK D f caps.toList with
    |none=>rfl
    |some s=>simp only[Wc,V9];exact pr D dst s
   ·rfl
  |_=>rfl
 |build t a =>
  cases tk with
  |true=>exact OD tab D dst t a.toList
  |false =>
   simp only[dx,WC,W2,DK];cases m9 mkD tab D t a.toList with
   |none=>rfl
   |some s=>simp only[Wc,V9];exact pr D dst s
 |_=>simp only[dx];exact lR tab D _ dst
section
variable  {δ β : Type}
def rM (D:St δ β):List Nat→Option (List (β×List (T δ)))
 |[]=>some []
 |h::hs=>match D[h]? with|some (.box b ts)=>(rM D hs).map fun r=>(b,ts.map (T.view .far))::r|_=>none
def ims (caps:List (β×List (T δ))):List (Sl δ β):=caps.map fun p=>.im .far p.1 p.2 0
def argOf (M:Mk δ β)(D:St δ β)(x:Operand):Option (Sl δ β):=
 match opd M.nil D x with
 |some (.im _ b ts off)=>some (.im .far b ts off)
 |some (.pb h off)=>match D[h]? with|some (.box b ts)=>some (.im .far b (ts.map (T.view .far)) off)|_=>none
 |some (.fni f caps)=>some (.fni f caps)
 |some (.pe _ _ _ _ _)=>none
 |some (.clo (.fn f) hs)=>(rM D hs).map (.fni f ·)
 |_=>(cellsCopy M D x).bind fun p=>iR p.1 (p.2.map (T.view .far))
def argsOf (M:Mk δ β)(D:St δ β):List Operand→Option (List (Sl δ β))|[]=>some []|x::xs=>(argOf M D x).bind fun s=>(argsOf M D xs).map fun r=>s::r
end
def Out (cx:Cx)(D:DSt)(X:List Nat):Prop:=∀b∈X,cx.may b∧bv D b=0
theorem Out.nil (cx:Cx)(D:DSt):Out cx D []:=fun b h=>by cases h
structure AOk (w:World)(X:List Nat)(a:DSl)(y:Value):Prop where
 val:∀D,VS D a y
 mem:MemS w a
 kind:∀D,eW ⟨w,X⟩ D a
 own:∀b∈ownBl a,b∈X∧b<w.heap.size
theorem lK {a:DSl}(h:a.isHome=false):ownBl a=[]:=by
 cases a with
 |one t=>exact fz h
 |agg ts =>
  show ts.flatMap ownR=[];rw[WB];intro t c;refine fz ?_;cases d:t.isOwn with
  |false=>rfl
  |true =>have:ts.any T.isOwn=false:=h;rw[Yj]at this;exact absurd d (this t c)
 |box b ts=>cases h
 |tup rs =>
  show(rs.flatMap fun r=>r.2.flatMap ownR)=[];have e:(rs.any fun r=>r.2.any T.isOwn)=false:=h;rw[Yj]at e;rw[WB];intro r f;rw[WB];intro t c;refine fz ?_;cases d:t.isOwn with
  |false=>rfl
  |true=>exact absurd (Xx.2 ⟨t,c,d⟩) (e r f)
 |_=>rfl
theorem ky {w:World}{X:List Nat}{a:DSl}(h:ownBl a=[]):∀b∈ownBl a,b∈X∧b<w.heap.size:=fun b hb=>by rw[h]at hb;cases hb
theorem Uv {w:World}{b:Nat}(h:b<w.heap.size):(Cx.mk w []).far b:=⟨h,by simp⟩
theorem Inv.farX {cx:Cx}{D:DSt}{P:List (DT×Value)}{tm:Array Value}{w:World}(I:Inv cx D P tm w){X:List Nat}(a:Out cx D X){b:Nat}(h:cx.far b):(Cx.mk w X).far b :=
 ⟨WQ h.1 I.frame.size,fun hb=>Cx.far_not h (a b hb).1⟩
theorem Q3 (t:DT):(t.view .far).isOwn=false:=by cases t<;>rfl
theorem AOk.views {w:World}{X:List Nat}{ts:List DT}{ys:List Value}{g:Bool}{y:Value}{s:DSl}(hv:VCells ts ys)(hh:∀t∈ts,Holds w t)(hb:∀t∈ts,∀b∈bl t,(Cx.mk w X).far b)
  (j:co g y ys) (hs:iR g (ts.map (T.view .far))=some s):AOk w X s y∧s.isHome=false:=by
 have l:∀D,∀t∈ts.map (T.view .far),bK ⟨w,X⟩ D t:=by
  intro D t a;obtain⟨u,c,rfl⟩:=Wx.1 a;cases u with
  |v x=>trivial
  |any=>trivial
  |s k d z r=>exact fun x m=>hb _ c x (by rw[cJ]at m ⊢;exact m)
 have n:∀t∈ts.map (T.view .far),Holds w t:=by intro t a;obtain⟨u,c,rfl⟩:=Wx.1 a;exact m6 (hh u c)
 have f:∀t∈ts.map (T.view .far),t.isOwn=false:=by intro t a;obtain⟨u,c,rfl⟩:=Wx.1 a;exact Q3 u
 have o:VCells (ts.map (T.view .far)) ys:=by refine⟨by simpa using hv.1,fun i t y hi j=>?_⟩;rw[Wr,We]at hi;obtain⟨u,c,rfl⟩:=hi;exact ua.2 (hv.2 i u y c j)
 have p:(ts.map (T.view .far)).flatMap ownR=[]:=by rw[WB];intro t a;exact fz (f t a)
 generalize ts.map (T.view .far)=us at *;unfold iR at hs;split at hs
 ·cases hs;refine⟨⟨fun D=>⟨ys.toArray,by simpa[co]using j,by simpa using o⟩,⟨n,fun t a h=>?_,trivial⟩,fun D t a=>l D t a,ky p⟩,by show us.any T.isOwn=false;rw[Yj];exact fun t a=>by rw[f t a];exact Xg⟩;rw[f t a]at h;cases h
 ·rename_i t;cases hs;have e:ys=[y]:=by simpa[co]using j
  subst e;refine⟨⟨fun D=>o.2 0 t y rfl rfl,⟨fun u c=>n u (by simpa[aj]using c),fun u c h=>?_,trivial⟩,fun D u c=>l D u (by simpa[aj]using c),ky (by simpa[ownBl]using p)⟩,f _ (WP _)⟩;have:=f u (by simpa[rootsO]using c);rw[this]at h;cases h
 ·cases hs
theorem Inv.out_kind {cx:Cx}{D:DSt}{P:List (DT×Value)}{tm:Array Value}{w:World}(I:Inv cx D P tm w){X:List Nat}(a:Out cx D X){t:DT}(e:bK cx D t)(f:t.isOwn=false):∀b∈bl t,(Cx.mk w X).far b:=by
 intro b hb;cases t with
 |v x=>simp[bl]at hb
 |any=>simp[bl]at hb
 |s k d z r =>
  cases k with
  |own=>cases f
  |far=>exact I.farX a (e b hb)
  |lent h c o =>obtain⟨t',g,i,j,l⟩:=e;obtain⟨s,g1,m,g3,n,g4⟩:=ce g;have p:=cI (b:=b) m (g4 i b (j b hb));exact⟨(I.bnd b (by omega)).2,fun q=>by have:=(a b q).2;omega⟩
theorem Inv.out_own {cx:Cx}{D:DSt}{P:List (DT×Value)}{tm:Array Value}{w:World}(I:Inv cx D P tm w){X:List Nat}(a:Out cx D X){s:DSl}(hs:s∈D){b:Nat}(hb:b∈ownBl s):(Cx.mk w X).far b:=by have c:=cI (b:=b) hs hb;exact⟨(I.bnd b (by omega)).2,fun q=>by have:=(a b q).2;omega⟩
theorem DD {D:DSt}:∀{hs:List Nat}{caps:List ((Nat×Nat)×List DT)},rM D hs=some caps→caps.length=hs.length ∧
  ∀(i h:Nat),hs[i]?=some h→∃(b:Nat×Nat) (ts:List DT),D[h]?=some (.box b ts)∧caps[i]?=some (b,ts.map (T.view .far))
 |[],caps,h=>by cases h;exact⟨rfl,fun i h e=>by simp at e⟩
 |h::hs,caps,e=>by
  unfold rM at e;split at e
  ·rename_i b ts hb;rw[We]at e;obtain⟨r,a,rfl⟩:=e;obtain⟨g1,c⟩:=DD a;refine⟨by simp[g1],fun i d hi=>?_⟩;cases i with
   |zero=>simp at hi;subst hi;exact⟨b,ts,hb,rfl⟩
   |succ i=>simp at hi;simpa using c i d hi
  ·cases e
theorem Inv.boxFar {cx:Cx}{D:DSt}{P:List (DT×Value)}{tm:Array Value}{w:World}(I:Inv cx D P tm w){X:List Nat}(i:Out cx D X){h:Nat}{b:Nat×Nat}{ts:List DT}(hb:D[h]?=some (.box b ts)):
  (Cx.mk w X).far b.1∧Lies w b (ts.map (T.view .far))∧(∀u∈ts.map (T.view .far),Holds w u)∧∀u∈ts.map (T.view .far),∀x∈bl u,(Cx.mk w X).far x:=by
 have a:=Wd hb;have l:=I.mem _ a;have k:∀t∈ts,∀x∈bl t,(Cx.mk w X).far x:=by
  intro t m x d;cases n:t.isOwn with
  |true=>exact I.out_own i a (by simp only[ownBl,WE,Wq];exact .inr ⟨t,m,by simp[ownR,n,d]⟩)
  |false=>exact I.out_kind i (I.kind _ a t m) n x d
 refine⟨I.out_own i a (by simp[ownBl]),?_,fun u g=>?_,fun u g x d=>?_⟩
 ·obtain⟨c,e,f,p,q⟩:=l.2.2.1;refine⟨c,e,f,p,fun j t o=>?_⟩;rw[Wr,We]at o;obtain⟨u,g,rfl⟩:=o;obtain⟨y,r,s⟩:=q j u g;exact⟨y,r,ua.2 s⟩
 ·obtain⟨v,hv,rfl⟩:=Wx.1 g;exact m6 (l.1 v hv)
 ·obtain⟨v,hv,rfl⟩:=Wx.1 g;rw[Te]at d;exact k v hv x d
theorem Inv.cloArg {cx:Cx}{D:DSt}{P:List (DT×Value)}{tm:Array Value}{w:World}(I:Inv cx D P tm w){X:List Nat}(j:Out cx D X){f:FuncId}{hs:List Nat}{caps:List ((Nat×Nat)×List DT)}(hc:rM D hs=some caps){y:Value}
  (hv:VS D (.clo (.fn f) hs) y):AOk w X (.fni f caps) y:=by
 obtain⟨k,u,r,rfl⟩:=hv;obtain⟨g1,n⟩:=DD hc;have a:∀p∈caps,∃(h:Nat) (ts:List DT),D[h]?=some (.box p.1 ts)∧p.2=ts.map (T.view .far):=by
  intro p g;obtain⟨i,hi⟩:=Wm g;have l:i<hs.length:=by
   rcases Wl i caps.length with q|q
   ·omega
   ·rw[Wh q]at hi;cases hi
  obtain⟨b,ts,c,d⟩:=n i hs[i] (Wg l);rw[hi]at d;cases d;exact⟨_,ts,c,rfl⟩
 have m:k=caps.map (·.1):=by
  apply XC;intro i;rcases Wl i hs.length with q|q
  ·obtain⟨b,ts,c,d⟩:=n i hs[i] (Wg q);obtain⟨ts',o⟩:=r i hs[i] k[i] (Wg q) (Wg (by omega));rw[c]at o;cases o;rw[Wr,d,Wg (by omega)];rfl
  ·rw[Wh (by omega),Wh (by simp;omega)]
 refine⟨fun D=>?_,⟨fun t e=>?_,fun t e=>by simp[rootsO]at e,fun p g=>?_⟩,fun D p g=>?_,ky rfl⟩
 ·show Jm (.fn f) k=_;simp only[Jm,m,WW];rfl
 ·simp only[aj,Wq]at e;obtain⟨p,g,e⟩:=e;obtain⟨h,ts,c,d⟩:=a p g;rw[d]at e;exact(I.boxFar j c).2.2.1 t e
 ·obtain⟨h,ts,c,d⟩:=a p g;rw[d];exact(I.boxFar j c).2.1
 ·obtain⟨h,ts,c,d⟩:=a p g;rw[d];exact⟨(I.boxFar j c).1,fun t e x s=>(I.boxFar j c).2.2.2 t e x s⟩
theorem AOk.ims {w:World}{X:List Nat}{f:FuncId}{caps:List ((Nat×Nat)×List DT)}{y:Value}(h:AOk w X (.fni f caps) y):∀(i:Nat)(a:DSl)(v:Value),(Am.ims caps)[i]?=some a→(caps.map fun b=>Value.pointer (some ⟨b.1.1,b.1.2,none⟩))[i]?=some v→AOk w X a v:=by
 intro i a v hi hv;unfold Am.ims at hi;rw[Wr,We]at hi hv;obtain⟨p,h1,rfl⟩:=hi;obtain⟨j,e,rfl⟩:=hv;rw[h1]at e;cases e;have c:=Wd h1;have g:=h.mem;refine⟨fun D=>rfl,⟨fun t d=>?_,fun t d=>by simp[rootsO]at d,g.2.2 p c⟩,fun D=>?_,ky rfl⟩
 ·exact g.1 t (by simp only[aj,Wq];exact⟨p,c,by simpa[aj]using d⟩)
 ·have:=h.kind D p c;exact⟨this.1,this.2⟩
theorem Q0 (caps:List ((Nat×Nat)×List DT)):(Am.ims caps).flatMap ownBl=[]:=by rw[WB];intro s hs;obtain⟨p,_,rfl⟩:=Wx.1 hs;rfl
theorem Inv.argOf {cx:Cx}{D:DSt}{P:List (DT×Value)}{a:Act}{w:World}(I:Inv cx D P a.tmps w){X:List Nat}(d:Out cx D X){x:Operand}{s:DSl}(e:argOf mkD D x=some s):AOk w X s (a.eval x)∧s.isHome=false:=by
 unfold Am.argOf at e;split at e
 ·rename_i k b ts off h;cases e;have i:=I.opd h;have u:=i.mem;have n:=i.kind;refine⟨⟨fun D=>i.val,⟨u.1,fun t c=>by simp[rootsO]at c,u.2.2⟩,fun D=>?_,ky rfl⟩,rfl⟩;cases k with
  |own=>exact n.elim
  |far=>exact⟨I.farX d n.1,fun t c x j=>I.farX d (n.2 t c x j)⟩
  |lent F H J =>obtain⟨t',l,q,z,A⟩:=n;obtain⟨s',g1,o,g3,B,g4⟩:=ce l;exact⟨I.out_own d o (g4 q _ z),fun t c x j=>I.out_own d o (g4 q _ (A t c x j))⟩
 ·rename_i h off r;split at e
  ·rename_i b ts hb;cases e;have i:=I.opd r;obtain⟨K,ts',m,C⟩:=i.val;rw[hb]at m;cases m;obtain⟨g1,o,g3,g4⟩:=I.boxFar d hb;exact⟨⟨fun D=>C,⟨fun t c=>g3 t (by simpa[aj]using c),fun t c=>by simp[rootsO]at c,o⟩,fun D=>⟨g1,g4⟩,ky rfl⟩,rfl⟩
  ·cases e
 ·rename_i f caps h;cases e;have i:=I.opd h;refine⟨⟨fun D=>i.val,i.mem,fun D p r=>?_,ky rfl⟩,rfl⟩;have:=i.kind p r;exact⟨I.farX d this.1,fun t c x j=>I.farX d (this.2 t c x j)⟩
 ·cases e
 ·rename_i f hs j;rw[We]at e;obtain⟨caps,l,rfl⟩:=e;exact⟨I.cloArg d l (I.opd j).val,rfl⟩
 ·rw[Wb]at e;obtain⟨⟨g,ts⟩,h,e⟩:=e;obtain⟨ys,G,hv⟩:=I.cellsCopy h;refine AOk.views G.v G.holds (fun t c b hb=>?_) hv e;cases y:t.isOwn with
  |false=>exact I.out_kind d (G.kind t c) y b hb
  |true =>have l:=G.cnt b;have q:0<(ts.flatMap ownR).count b:=Wz.2 (Wq.2 ⟨t,c,by simp[ownR,y,hb]⟩);rw[cO]at l;omega
def ArgsOk (w:World)(X:List Nat)(ad:List DSl)(c:List Value):Prop :=ad.length=c.length∧(∀(i:Nat)(a:DSl)(y:Value),ad[i]?=some a→c[i]?=some y→AOk w X a y)∧∀b,(ad.flatMap ownBl).count b≤1
theorem ArgsOk.nil (w:World)(X:List Nat):ArgsOk w X [] []:=⟨rfl,fun i a y h=>by simp at h,fun b=>by simp⟩
theorem ArgsOk.consH {w:World}{X:List Nat}{a:DSl}{y:Value}{as:List DSl}{ys:List Value}(h:AOk w X a y)(hc:∀b,(ownBl a).count b+(as.flatMap ownBl).count b≤1)(g:ArgsOk w X as ys):ArgsOk w X (a::as) (y::ys):=by
 refine⟨by simp[g.1],fun i d e hi c=>?_,fun b=>by rw[WA,WD];exact hc b⟩;cases i with
 |zero=>simp at hi c;subst hi;subst c;exact h
 |succ i=>simp at hi c;exact g.2.1 i d e hi (by simpa using c)
theorem ArgsOk.consN {w:World}{X:List Nat}{a:DSl}{y:Value}{as:List DSl}{ys:List Value}(h:AOk w X a y)(hc:a.isHome=false)(g:ArgsOk w X as ys):ArgsOk w X (a::as) (y::ys):=
 ArgsOk.consH h (fun b=>by rw[lK hc];simpa using g.2.2 b) g
theorem N2 {ad:List DSl}(h:∀a∈ad,a.isHome=false):ad.flatMap ownBl=[]:=by rw[WB];exact fun a b=>lK (h a b)
theorem Inv.argsOf {cx:Cx}{D:DSt}{P:List (DT×Value)}{a:Act}{w:World}(I:Inv cx D P a.tmps w){X:List Nat}(b:Out cx D X):∀{xs:List Operand}{ss:List DSl},argsOf mkD D xs=some ss→ArgsOk w X ss (xs.map a.eval)∧∀a∈ss,a.isHome=false
 |[],ss,e=>by cases e;exact⟨ArgsOk.nil w X,fun a h=>by cases h⟩
 |x::xs,ss,e=>by
  simp only[Am.argsOf,Wb,We]at e;obtain⟨s,d,r,f,rfl⟩:=e;obtain⟨g1,g⟩:=I.argsOf b f;obtain⟨i,c⟩:=I.argOf b d;exact⟨g1.consN i c,fun j ha=>by
   rcases WE.1 ha with rfl|ha
   ·exact c
   ·exact g j ha⟩
section
variable  {δ β : Type}
def argsIo (M:Mk δ β)(D:St δ β)(s:Sl δ β):Nat→List Operand→Option (List (Sl δ β))|_,[]=>none| 0,_::xs=>(argsOf M D xs).map fun r=>s::r|i+1,x::xs=>(argOf M D x).bind fun a=>(argsIo M D s i xs).map fun r=>a::r
end
def OneHome (s:DSl)(y:Value):Nat→List DSl→List Value→Prop|_,[],_=>False|_,_::_,[]=>False| 0,a::as,v::_=>a=s∧v=y∧∀a∈as,a.isHome=false|i+1,a::as,_::b=>a.isHome=false∧OneHome s y i as b
theorem Inv.argsIo {cx:Cx}{D:DSt}{P:List (DT×Value)}{a:Act}{w:World}(I:Inv cx D P a.tmps w){X:List Nat}(f:Out cx D X){s:DSl}{x:Operand}(hs:AOk w X s (a.eval x))(j:∀b,(ownBl s).count b≤1):
  ∀{i:Nat}{xs:List Operand}{ss:List DSl},xs[i]?=some x→argsIo mkD D s i xs=some ss→ArgsOk w X ss (xs.map a.eval)∧ss.flatMap ownBl=ownBl s∧OneHome s (a.eval x) i ss (xs.map a.eval)
 |_,[],ss,c,e=>by simp at c
 | 0,y::xs,ss,c,e=>by simp only[Am.argsIo,We]at e;obtain⟨r,g,rfl⟩:=e;obtain⟨g1,d⟩:=I.argsOf f g;simp at c;subst c;exact⟨g1.consH hs fun b=>by rw[N2 d];simpa using j b,by rw[WA,N2 d,WG],rfl,rfl,d⟩
 |i+1,y::xs,ss,c,e=>by simp only[Am.argsIo,Wb,We]at e;obtain⟨m,k,r,g,rfl⟩:=e;obtain⟨g1,d,g3⟩:=I.argsIo f hs j (by simpa using c) g;obtain⟨l,h⟩:=I.argOf f k;exact⟨g1.consN l h,by rw[WA,lK h,d];rfl,h,g3⟩
theorem Ju (D:DSt):∀(hs:List Nat),rM (erD D) hs=(rM D hs).map (List.map fun p=>((),erL p.2))
 |[]=>rfl
 |h::hs=>by
  simp only[rM,cf];cases D[h]? with
  |none=>rfl
  |some s =>
   cases s with
   |box b ts =>
    simp only[Wc,Sl.er,Ju D hs];cases rM D hs with
    |none=>rfl
    |some r=>simp only[Wc,Wv,uw]
   |_=>rfl
theorem QD (caps:List ((Nat×Nat)×List DT)):(ims caps).map Sl.er=ims (caps.map fun p=>((),erL p.2)):=by unfold ims;rw[WW,WW];rfl
theorem Js (D:DSt)(x:Operand):argOf mkU (erD D) x=(argOf mkD D x).map Sl.er:=by
 simp only[argOf,cE];have a:∀s:DSl,((cellsCopy mkU (erD D) x).bind fun p=>iR p.1 (p.2.map (T.view .far)))=((cellsCopy mkD D x).bind fun p=>(iR p.1 (p.2.map (T.view .far)):Option DSl)).map Sl.er:=by
  intro s;rw[kH];cases cellsCopy mkD D x with
  |none=>rfl
  |some p=>simp only[Wc,V9, ←uw,wV]
 cases d:opd mkD.nil D x with
 |none=>exact a .any
 |some s =>
  cases s with
  |pb h off =>
   simp only[Wc,Sl.er,cf];cases D[h]? with
   |none=>rfl
   |some s=>cases s<;>first|rfl|simp only[Wc,Sl.er,uw]
  |im k b ts off=>rfl
  |fni f caps=>rfl
  |pe h c st i off=>rfl
  |clo g hs =>
   cases g with
   |arr offs=>exact a .any
   |fn f =>
    simp only[Wc,Sl.er,Ju];cases rM D hs with
    |none=>rfl
    |some r=>rfl
  |_=>exact a .any
theorem z6 (D:DSt):∀(xs:List Operand),argsOf mkU (erD D) xs=(argsOf mkD D xs).map (List.map Sl.er)
 |[]=>rfl
 |x::xs=>by
  simp only[argsOf,Js,z6 D xs];cases argOf mkD D x with
  |none=>rfl
  |some s =>
   simp only[Wc,V9];cases argsOf mkD D xs with
   |none=>rfl
   |some r=>rfl
theorem GP (D:DSt)(s:DSl):∀(i:Nat)(xs:List Operand),argsIo mkU (erD D) s.er i xs=(argsIo mkD D s i xs).map (List.map Sl.er)
 |_,[]=>by simp[argsIo]
 | 0,x::xs=>by
  simp only[argsIo,z6];cases argsOf mkD D xs with
  |none=>rfl
  |some r=>rfl
 |i+1,x::xs=>by
  simp only[argsIo,Js,GP D s i xs];cases argOf mkD D x with
  |none=>rfl
  |some a =>
   simp only[Wc,V9];cases argsIo mkD D s i xs with
   |none=>rfl
   |some r=>rfl
abbrev URes:=List (Bool×List (T Unit))
abbrev em:=List (Bool×List DT)
def erR (rd:em):URes:=rd.map fun r=>(r.1,erL r.2)
theorem xS (a b:em):erR (a++b)=erR a++erR b:=by simp[erR]
def cT:DSl→List Nat| .box b _=>[b.1]|_=>[]
theorem S7 {a:DSl}(h:a.isHome=false):cT a=[]:=by cases a<;>first|rfl|cases h
theorem Tw {ad:List DSl}(h:∀a∈ad,a.isHome=false):ad.flatMap cT=[]:=by rw[WB];exact fun a b=>S7 (h a b)
def bA (rd:em):List Nat:=rd.flatMap fun r=>r.2.flatMap ownR
theorem mT (a b:em):bA (a++b)=bA a++bA b:=by simp[bA]
inductive HK where|box|one|agg deriving DecidableEq
def cY {δ β:Type}:Sl δ β→Option HK| .box _ _=>some .box| .one u=>if u.isOwn=true then some .one else none| .agg ts=>if ts.any T.isOwn=true then some .agg else none|_=>none
theorem Ag {a:DSl}(h:a.isHome=false):cY a=none:=by
 cases a with
 |one t=>simp[cY,show t.isOwn=false from h]
 |agg ts=>simp only[cY,show ts.any T.isOwn=false from h];rfl
 |box b ts=>cases h
 |_=>rfl
theorem SD {a:DSl}(h:cY a=some .box):∃b ts,a = .box b ts:=by
 cases a with
 |box b ts=>exact⟨b,ts,rfl⟩
 |one u=>simp only[cY]at h;split at h<;>simp at h
 |agg ts=>simp only[cY]at h;split at h<;>simp at h
 |_=>simp[cY]at h
theorem CX {a:DSl}(h:cY a=some .one):∃u,a = .one u:=by
 cases a with
 |box b ts=>simp[cY]at h
 |one u=>exact⟨u,rfl⟩
 |agg ts=>simp only[cY]at h;split at h<;>simp at h
 |_=>simp[cY]at h
theorem SC {a:DSl}(h:cY a=some .agg):∃ts,a = .agg ts:=by
 cases a with
 |box b ts=>simp[cY]at h
 |one u=>simp only[cY]at h;split at h<;>simp at h
 |agg ts=>exact⟨ts,rfl⟩
 |_=>simp[cY]at h
def Dt (w':World)(a:DSl)(y:Value)(o:Bool×List DT):Prop :=
 match a with
 | .box b _=>o.1=true∧Lies w' b o.2∧Free w' b o.2.length
 | .one _=>VPart o y∧o.1=false
 | .agg _=>VPart o y∧o.1=true
 |_=>False
def OutsOk (w':World):List DSl→List Value→em→Prop|[],_,od=>od=[]|a::as,y::ys,od=>if(cY a).isSome then ∃o r,od=o::r∧Dt w' a y o∧OutsOk w' as ys r else OutsOk w' as ys od|_::_,[],_=>False
def Ut (rd:em)(v:Value):Prop:=∃(d:Dec) (z:Nat) (row:List DT),rd=[(false,[.s .own d z [row],.any])]∧v = .pointer (some ⟨d.b,d.o,none⟩)
structure RetOk (w:World)(X:List Nat)(w':World)(bx:List Nat)(od rd:em)(v:Value):Prop where
 val:(∃r,rd=[r]∧VPart r v)∨(rd.length≠1∧VS [] (.tup rd) v)∨Ut rd v
 fine:∀r∈od++rd,∀t∈r.2,t.fine=true
 holds:∀r∈od++rd,∀t∈r.2,Holds w' t
 own:∀r∈od++rd,∀t∈r.2,t.isOwn=true→OwnT w' t
 once:∀b,(bA (od++rd)).count b+bx.count b≤1
 new:∀b∈bA (od++rd),(w.heap.size≤b∨b∈X)∧b<w'.heap.size
structure GrewH (X:List Nat)(w w':World):Prop where
 os:w'.os=w.os
 tape:w'.tape=w.tape
 output:w'.output=w.output
 size:w.heap.size≤w'.heap.size
 same:∀b,b<w.heap.size→b∉X→w'.heap[b]?=w.heap[b]?
theorem Grew.x {w w':World}(g:Grew w w')(X:List Nat):GrewH X w w':=⟨g.os,g.tape,g.output,g.size,fun b h _=>g.same b h⟩
theorem GrewH.grew {w w':World}(g:GrewH [] w w'):Grew w w':=⟨g.os,g.tape,g.output,g.size,fun b h=>g.same b h (by simp)⟩
abbrev Sem1:=FuncId→List (Sl Unit Unit)→Option URes
structure Base where
 n:Nat
 K:World→Prop
 stable:∀{w w':World},(∀b,b<n→w'.heap[b]?=w.heap[b]?)→K w→K w'
def Base.ok (B:Base)(w:World)(X:List Nat):Prop:=B.n≤w.heap.size∧(∀b∈X,B.n≤b)∧B.K w
def B0:Base:=⟨0,fun _=>True,fun _ h=>h⟩
theorem B0.ok (w:World)(X:List Nat):B0.ok w X:=⟨Yg _,fun _ _=>Yg _,trivial⟩
theorem Base.ok.at {B:Base}{cx:Cx}{D D':DSt}{d:List (DT×Value)}{tm:Array Value}{w:World}(h:B.ok cx.w0 cx.X)(I:Inv cx D d tm w){X:List Nat}(e:Out cx D' X):B.ok w X:=by
 obtain⟨a,c,f⟩:=h;refine⟨W6 a I.frame.size,fun b hb=>?_,B.stable (fun b hb=>I.frame.same b ⟨WQ hb a,fun g=>Nat.not_le_of_lt hb (c b g)⟩) f⟩;rcases(e b hb).1 with h|h
 ·exact W6 a h
 ·exact c b h
def CallsOk (P:Program)(B:Base)(C:Sem1):Prop :=∀(f:FuncId)(as:List (Sl Unit Unit))(rs:URes),C f as=some rs→∀(w:World)(X:List Nat)(ad:List DSl)(a:List Value),B.ok w X→ad.map Sl.er=as→ArgsOk w X ad a → Calls P f a.toArray w fun e w'=>∃v od rd,e = .returned v∧GrewH X w w'∧erR (od++rd)=rs∧OutsOk w' ad a od∧RetOk w X w' (ad.flatMap cT) od rd v
def jf (P:Program)(B:Base)(C:Sem1)(cx:Cx):Prop:=CallsOk P B C∧B.ok cx.w0 cx.X
theorem OutsOk.none {w':World}:∀{ad:List DSl}{b:List Value}{od:em},(∀a∈ad,a.isHome=false)→OutsOk w' ad b od→od=[]
 |[],_,_,_,h=>h
 |a::as,[],_,_,h=>h.elim
 |a::as,y::ys,od,hh,h=>by unfold OutsOk at h;rw[Ag (hh a (by simp))]at h;exact OutsOk.none (fun c d=>hh c (by simp[d])) h
theorem OutsOk.one {w':World}{s:DSl}{y:Value}(hs:(cY s).isSome=true):∀{i:Nat}{ad:List DSl}{b:List Value}{od:em},OneHome s y i ad b→OutsOk w' ad b od→∃o,od=[o]∧Dt w' s y o
 |i,[],_,_,h,_=>by cases i<;>exact h.elim
 |i,a::as,[],_,h,_=>by cases i<;>exact h.elim
 | 0,a::as,v::b,od,h,g=>by obtain⟨rfl,rfl,c⟩:=h;unfold OutsOk at g;rw[hs]at g;obtain⟨o,r,rfl,g1,d⟩:=g;rw[OutsOk.none c d];exact⟨o,rfl,g1⟩
 |i+1,a::as,v::b,od,h,g=>by obtain⟨e,f⟩:=h;unfold OutsOk at g;rw[Ag e]at g;exact OutsOk.one hs f g
theorem OneHome.box {s:DSl}{y:Value}:∀{i:Nat}{ad:List DSl}{b:List Value},OneHome s y i ad b→ad.flatMap cT=cT s
 |i,[],_,h=>by cases i<;>exact h.elim
 |i,a::as,[],h=>by cases i<;>exact h.elim
 | 0,a::as,v::b,h=>by obtain⟨rfl,rfl,c⟩:=h;rw[WA,show as.flatMap cT=[]from Tw c,WG]
 |i+1,a::as,v::b,h=>by rw[WA,S7 h.1,h.2.box];rfl
section
variable  {δ β : Type}
def nar (M:Mk δ β)(n:Nat)(s:Sl δ β):Sl δ β :=
 match s with
 | .im k b ts off=>if n≠0∧(off≠0∨n≠ts.length)∧off+n≤ts.length then .im k (M.at_ (M.ptr b) off 1) ((ts.drop off).take n) 0 else .im k b ts off
 |s=>s
def narL (M:Mk δ β):List Nat→List (Sl δ β)→List (Sl δ β)|n::a,s::ss=>nar M n s::narL M a ss|_,ss=>ss
def argsW (M:Mk δ β)(tab:Tab)(f:FuncId)(D:St δ β)(xs:List Operand):Option (List (Sl δ β)):=(argsOf M D xs).map (narL M ((tab.pw.lookup f).getD []))
end
theorem TV (n:Nat)(s:DSl):nar mkU n s.er=(nar mkD n s).er:=by
 cases s with
 |im k b ts off =>
  simp only[nar,Sl.er,WH];split
  ·simp only[Sl.er,erL,X2,X3]
  ·rfl
 |_=>rfl
theorem NO:∀(a:List Nat)(ss:List DSl),narL mkU a (ss.map Sl.er)=(narL mkD a ss).map Sl.er
 |[],ss=>by cases ss<;>rfl
 |n::a,[]=>rfl
 |n::a,s::ss=>by simp only[Wv,narL,TV,NO a ss]
theorem Jt (tab:Tab)(f:FuncId)(D:DSt)(xs:List Operand):argsW mkU tab f (erD D) xs=(argsW mkD tab f D xs).map (List.map Sl.er):=by unfold argsW;rw[z6,Xc,Xc];congr 1;funext ss;exact NO _ ss
theorem AOk.nar {w:World}{X:List Nat}{a:DSl}{y:Value}(n:Nat)(h:AOk w X a y)(hh:a.isHome=false):AOk w X (Am.nar mkD n a) y∧(Am.nar mkD n a).isHome=false:=by
 cases a with
 |im k b ts off =>
  simp only[Am.nar];split
  ·rename_i hc;have hb:(mkD.at_ (mkD.ptr b) off 1)=(b.1,b.2+off):=by simp[mkD]
   rw[hb];have d:∀u∈(ts.drop off).take n,u∈ts:=fun u g=>Xw (XK g)
   have p:=h.mem;refine⟨⟨fun D=>?_,⟨fun u g=>p.1 u (d u g),fun u g=>by simp[rootsO]at g,?_⟩,fun D=>?_,ky rfl⟩,rfl⟩
   ·have:=h.val D;exact this
   ·obtain⟨c,e,f,q1,m⟩:=p.2.2;refine⟨c,e,f,q1,fun j u i=>?_⟩;have o:ts[off+j]?=some u:=by
     rw[Xl]at i;split at i
     ·rwa [Xa]at i
     ·cases i
    obtain⟨z,q,z2⟩:=m (off+j) u o;exact⟨z,by simpa[Xz]using q,z2⟩
   ·have l:=h.kind D;cases k with
    |own=>exact l
    |far=>exact⟨l.1,fun u g=>l.2 u (d u g)⟩
    |lent v c x =>obtain⟨t,q1,m,r,s⟩:=l;exact⟨t,q1,m,r,fun u g=>s u (d u g)⟩
  ·exact⟨h,hh⟩
 |_=>exact⟨h,hh⟩
theorem ArgsOk.narL {w:World}{X:List Nat}:∀(c:List Nat){ad:List DSl}{d:List Value},ArgsOk w X ad d→(∀s∈ad,s.isHome=false)→ArgsOk w X (Am.narL mkD c ad) d∧∀s∈Am.narL mkD c ad,s.isHome=false
 |[],ad,d,h,hh=>by cases ad<;>exact⟨h,hh⟩
 |n::c,[],d,h,hh=>⟨h,hh⟩
 |n::c,a::as,[],h,hh=>by have:=h.1;simp at this
 |n::c,a::as,y::ys,h,hh=>by
  have f:=h.2.1 0 a y rfl rfl;obtain⟨g,e⟩:=f.nar n (hh a (by simp));have j:ArgsOk w X as ys:=⟨by simpa using h.1,fun i k l q1 m=>h.2.1 (i+1) k l (by simpa using q1) (by simpa using m),fun b=>by have:=h.2.2 b;rw[WA,WD]at this;omega⟩
  obtain⟨o,p⟩:=ArgsOk.narL c j fun s hs=>hh s (by simp[hs])
  refine⟨o.consN g e,fun s hs=>?_⟩;rcases WE.1 hs with rfl|hs
  ·exact e
  ·exact p s hs
theorem Inv.argsW {cx:Cx}{D:DSt}{P:List (DT×Value)}{a:Act}{w:World}(I:Inv cx D P a.tmps w){X:List Nat}(b:Out cx D X){tab:Tab}{f:FuncId}{xs:List Operand}{ad:List DSl}(e:Am.argsW mkD tab f D xs=some ad):
  ArgsOk w X ad (xs.map a.eval)∧∀s∈ad,s.isHome=false:=by
 unfold Am.argsW at e;rw[We]at e;obtain⟨c,d,rfl⟩:=e;obtain⟨g,h⟩:=I.argsOf b d;exact g.narL _ h
section
variable  {δ β : Type}
def ug (M:Mk δ β):T δ→Option (β×List (T δ))| .s .own d z [row]=>if row.all T.fine=true then some (M.at_ d 0 z,row)else none|_=>none
def yr (M:Mk δ β)(r:Bool×List (T δ)):Option (β×List (T δ)):=
 match r.1,r.2 with
 |false,[t,.any]=>ug M t
 |_,_=>none
def rY (M:Mk δ β):List (Bool×List (T δ))→Option (Sl δ β)
 |[r]=>match yr M r with|some (b,row)=>some (.box b row)|none=>iR r.1 r.2
 |rs=>some (.tup rs)
def putRet (M:Mk δ β)(D:St δ β)(dst:Option Nat)(rs:List (Bool×List (T δ))):Option (St δ β):=
 match dst with
 |none=>some D
 |some t=>if t<D.length then(rY M rs).map fun s=>ba D (some t) s else none
def boolOf (M:Mk δ β)(D:St δ β)(x:Operand):Option Bool :=
 match opd M.nil D x with
 |some (.one (.v (.bool b)))=>some b
 |_=>none
end
theorem xC {cx:Cx}{D:DSt}{t:DT}(h:t.fine=true):bK cx D t:=by
 cases t with
 |v x=>trivial
 |any=>trivial
 |s k d z r=>cases k<;>first|trivial|cases h
theorem Inv.dropP {cx:Cx}{D:DSt}{P:List (DT×Value)}{tm:Array Value}{w:World}(I:Inv cx D P tm w):Inv cx D [] tm w where
 size:=I.size
 val:=I.val
 mem:=I.mem
 kind:=I.kind
 pend:=fun p a=>by cases a
 once:=fun b=>by have:=I.once b;rw[cO];omega
 bnd:=fun b hb=>I.bnd b (by rw[cO]at hb;omega)
 frame:=I.frame
def PendOf (P:List (DT×Value))(ts:List DT):Prop:=P.map (·.1)=ts∧∀p∈P,VT p.1 p.2
theorem PendOf.cnt {P:List (DT×Value)}{ts:List DT}(h:PendOf P ts)(b:Nat):aV P b=(ts.flatMap ownR).count b:=by unfold aV;rw[←h.1,X5]
theorem fL:∀{ts:List DT},(∀t∈ts,∃y,VT t y)→∃P,PendOf P ts
 |[],_=>⟨[],rfl,fun p hp=>by cases hp⟩
 |t::ts,h=>by
  obtain⟨y,a⟩:=h t (by simp);obtain⟨P,b,c⟩:=fL (ts:=ts) fun u d=>h u (by simp[d])
  refine⟨(t,y)::P,by simp[b],fun p hp=>?_⟩;rcases WE.1 hp with rfl|hp
  ·exact a
  ·exact c p hp
theorem VCells.each {ts:List DT}{ys:List Value}(h:VCells ts ys):∀t∈ts,∃y,VT t y:=by
 intro t b;obtain⟨i,hi⟩:=Wm b;have a:i<ys.length:=by
  rw[←h.1];rcases Wl i ts.length with g|g
  ·exact g
  ·rw[Wh g]at hi;cases hi
 exact⟨_,h.2 i t ys[i] hi (Wg a)⟩
theorem VPart.each {r:Bool×List DT}{y:Value}(h:VPart r y):∀t∈r.2,∃y,VT t y:=by
 unfold VPart at h;split at h
 ·obtain⟨cs,_,h⟩:=h;exact h.each
 ·obtain⟨t,b,c⟩:=h;intro u a;rw[b,Wk]at a;subst a;exact⟨_,c⟩
theorem rX (rd:em):bA rd=(rd.flatMap (·.2)).flatMap ownR:=by unfold bA;rw[List.flatMap_assoc]
theorem RetOk.each {w:World}{X:List Nat}{w':World}{bx:List Nat}{od rd:em}{v:Value}(R:RetOk w X w' bx od rd v):∀t∈rd.flatMap (·.2),∃y,VT t y:=by
 intro t a;obtain⟨r,b,a⟩:=Wq.1 a;rcases R.val with⟨k,c,e⟩|⟨_,h,_,e,j⟩|⟨d,z,row,c,_⟩
 ·rw[c,Wk]at b;subst b;exact e.each t a
 rotate_left
 ·rw[c,Wk]at b;subst b;simp only[WE,XR,Yx]at a;rcases a with rfl|rfl
  ·exact⟨_,rfl⟩
  ·exact⟨.bool true,rfl⟩
 ·obtain⟨i,hi⟩:=Wm b;have f:i<h.toList.length:=by
   rw[←e];rcases Wl i rd.length with g|g
   ·exact g
   ·rw[Wh g]at hi;cases hi
  exact(j i r h.toList[i] hi (Wg f)).each t a
theorem Inv.world {cx:Cx}{D:DSt}{P P':List (DT×Value)}{tm:Array Value}{w w':World}(I:Inv cx D P tm w){X:List Nat}(m:Out cx D X)(g:GrewH X w w')
  (n:∀p∈P',VT p.1 p.2∧Holds w' p.1∧(p.1.isOwn=true→OwnT w' p.1)∧(p.1.isOwn=false→∀x∈bl p.1,cx.far x))
  (B:∀b,0<aV P' b→aV P' b≤1∧bv D b=0∧cx.may b∧b<w'.heap.size):Inv cx D P' tm w':=by
 have same:∀b,(Cx.mk w X).far b→w'.heap[b]?=w.heap[b]?:=fun b h=>g.same b h.1 h.2
 have j:∀s∈D,∀b∈ownBl s,(Cx.mk w X).far b:=fun s hs b hb=>I.out_own m hs hb
 have i:∀s∈D,∀t∈rootsO s,bK cx D t→∀b∈bl t,(Cx.mk w X).far b:=by
  intro s hs t a d b hb;cases y:t.isOwn with
  |false=>exact I.out_kind m d y b hb
  |true =>
   refine j s hs b ?_;have:b∈ownR t:=by simp[ownR,y,hb]
   cases s with
   |one u=>simp[rootsO]at a;subst a;exact this
   |agg ts=>exact Wq.2 ⟨t,a,this⟩
   |box C ts=>exact XJ _ (Wq.2 ⟨t,a,this⟩)
   |tup rs =>simp only[rootsO,Wq]at a;obtain⟨r,G,a⟩:=a;exact Wq.2 ⟨r,G,Wq.2 ⟨t,a,this⟩⟩
   |_=>simp[rootsO]at a
 have l:∀(b:Nat)(ts:List DT)(k:Kd),pD cx D k b ts→(Cx.mk w X).far b∧∀t∈ts,∀x∈bl t,(Cx.mk w X).far x:=by
  intro b ts k d;cases k with
  |own=>exact d.elim
  |far=>exact⟨I.farX m d.1,fun t a x v=>I.farX m (d.2 t a x v)⟩
  |lent h c L =>obtain⟨t',q1,A,H,J⟩:=d;obtain⟨s,g1,F,g3,K,g4⟩:=ce q1;exact⟨j s F _ (g4 A _ H),fun t a x v=>j s F _ (g4 A _ (J t a x v))⟩
 have lies:∀(b:Nat×Nat)(ts:List DT),(Cx.mk w X).far b.1→Lies w b ts→Lies w' b ts:=by rintro b ts hf ⟨c,e,f,q1,A⟩;exact⟨c,e,f,by rw[same _ hf];exact q1,A⟩
 refine⟨I.size,I.val,fun s hs=>?_,I.kind,n,fun b=>?_,fun b hb=>?_,?_⟩
 ·have o:=I.mem s hs;have d:=I.kind s hs;have roots:∀t∈aj s,∀b∈bl t,(Cx.mk w X).far b:=by
   intro t a;cases s with
   |one u=>exact i _ hs t a (d t a)
   |agg ts=>exact i _ hs t a (d t a)
   |box C ts=>exact i _ hs t a (d t a)
   |tup rs=>exact i _ hs t a (d t a)
   |im k b ts off=>exact(l _ _ _ d).2 t a
   |fni f caps =>simp only[aj,Wq]at a;obtain⟨p,n,a⟩:=a;exact fun x v=>I.farX m ((d p n).2 t a x v)
   |_=>simp[aj]at a
  refine⟨fun t a=>(o.1 t a).frame fun b hb _=>same b (roots t a b hb),fun t a y=>(o.2.1 t a y).frame fun b hb _=>same b (i s hs t a (by
   cases s with
   |one u=>exact d t a
   |agg ts=>exact d t a
   |box C ts=>exact d t a
   |tup rs=>exact d t a
   |_=>simp[rootsO]at a) b hb),?_⟩
  cases s with
  |box b ts =>have hf:=j _ hs b.1 (by simp[ownBl]);refine⟨lies b ts hf o.2.2.1,fun c e lo hi hc=>o.2.2.2 c e lo hi ?_⟩;rw[←same _ hf];exact hc
  |im k b ts off=>exact lies b ts (l _ _ _ d).1 o.2.2
  |fni f caps=>exact fun p n=>lies p.1 p.2 (I.farX m (d p n).1) (o.2.2 p n)
  |_=>trivial
 ·have q:=I.once b;rcases W4 (aV P' b)with z|z
  ·omega
  ·have:=B b z;omega
 ·rcases W4 (aV P' b)with z|z
  ·have:=I.bnd b (by omega);exact⟨this.1,WQ this.2 g.size⟩
  ·exact(B b z).2.2
 ·have f:=I.frame;exact⟨by rw[g.os,f.os],by rw[g.tape,f.tape],by rw[g.output,f.output],W6 f.size g.size,fun b hb=>by rw[g.same b (WQ hb.1 f.size) fun q=>Cx.far_not hb (m b q).1];exact f.same b hb⟩
theorem RetOk.pend {w:World}{X:List Nat}{w':World}{bx:List Nat}{od rd:em}{v:Value}(R:RetOk w X w' bx od rd v){ts:List DT}(a:∀t∈ts,∃r∈od++rd,t∈r.2){P:List (DT×Value)}(d:PendOf P ts)(cx:Cx):
  ∀p∈P,VT p.1 p.2∧Holds w' p.1∧(p.1.isOwn=true→OwnT w' p.1)∧(p.1.isOwn=false→∀x∈bl p.1,cx.far x):=by
 intro p e;obtain⟨r,b,c⟩:=a p.1 (by rw[←d.1];exact Wx.2 ⟨p,e,rfl⟩);refine⟨d.2 p e,R.holds r b _ c,R.own r b _ c,fun g x f=>?_⟩;rcases vZ (R.fine r b _ c)with q|q
 ·rw[g]at q;cases q
 ·rw[q]at f;cases f
theorem Fo:∀{ts:List DT},(∀t∈ts,t.fine=true)→ts.flatMap bl=ts.flatMap ownR
 |[],_=>rfl
 |t::ts,h=>by
  rw[WA,WA,Fo fun u a=>h u (by simp[a])];congr 1;have:=h t (by simp);cases t with
  |v x=>simp[ownR,T.isOwn,bl]
  |any=>simp[ownR,T.isOwn,bl]
  |s k d z r=>cases k<;>first|(simp[ownR,T.isOwn];done)|cases this
theorem RetOk.ptr {w:World}{X:List Nat}{w':World}{bx:List Nat}{od rd:em}{v:Value}(R:RetOk w X w' bx od rd v){r:Bool×List DT}(A:rd=[r]){b:Nat×Nat}{row:List DT}(h:yr mkD r=some (b,row)):
  v = .pointer (some ⟨b.1,b.2,none⟩)∧Lies w' b row∧Free w' b row.length∧(∀u∈row,Holds w' u∧(u.isOwn=true→OwnT w' u)∧u.fine=true)∧∀x,(b.1::row.flatMap ownR).count x=(bA rd).count x:=by
 subst A;obtain⟨g,ts⟩:=r;unfold yr at h;split at h
 case h_2=>cases h
 rename_i t q l;simp only at q l;subst q;subst l;unfold ug at h;split at h
 case h_2=>cases h
 rename_i d z m;split at h
 case isFalse=>cases h
 rename_i hf;cases h;have a:∀u∈row,u.fine=true:=fun u n=>Wt.1 hf u n
 have hv:v = .pointer (some ⟨d.b,d.o,none⟩):=by
  rcases R.val with⟨P,i,k⟩|⟨i,_⟩|⟨Q,S,m,i,k⟩
  ·cases i;simp only[VPart,WC,W2]at k;obtain⟨t,p,_⟩:=k;cases p
  ·exact absurd rfl i
  ·simp only[XE,YS,T.s.injEq,true_and,Yf]at i;obtain⟨rfl,rfl,rfl⟩:=i;exact k
 have B:=R.holds (false,[.s .own d z [row],.any]) (by simp) (.s .own d z [row]) (by simp);have C:=R.own (false,[.s .own d z [row],.any]) (by simp) (.s .own d z [row]) (by simp) rfl;have D:(mkD.at_ d 0 z)=(d.b,d.o):=by simp[mkD]
 rw[D];cases B with
 |s _ _ _ _ q1 U c e f F V G H I =>
  have hz:=G 0 row rfl;cases C with
  |s _ _ _ W Y Z e' lo hi J K p5 L M =>
   refine⟨hv,⟨c,e,f,F,fun j t p=>?_⟩,fun c2 e2 N O hc x i k=>?_,fun u n=>?_,fun x=>?_⟩
   ·have:=H 0 row j t rfl p;simpa using this
   ·rw[J]at hc;cases hc;refine L x i ?_;have:1*z≤d.cap*z:=Xq z (by simpa using K);simp only at k;omega
   ·obtain⟨j,y⟩:=Wm n;exact⟨I 0 row j u rfl y,fun _=>M 0 row j u rfl y,a u n⟩
   ·have:bA ([(false,[.s .own d z [row],.any])]:em)=d.b::row.flatMap ownR:=by simp only[bA,WA,X6,WG,ownR,T.isOwn,WN,cJ,q1];simp[←Fo a]
    rw[this]
theorem Inv.putRetP {cx:Cx}{D D':DSt}{P:List (DT×Value)}{a:Act}{w w':World}(I:Inv cx D P a.tmps w'){X:List Nat}{bx:List Nat}{od rd:em}{v:Value}(R:RetOk w X w' bx od rd v)(p:PendOf P (rd.flatMap (·.2))){dst:Option Nat}
  (e:putRet mkD D dst rd=some D'):Inv cx D' [] (a.put dst v).tmps w':=by
 unfold Am.putRet at e;split at e
 ·cases e;exact I.dropP
 ·rename_i t;split at e
  case isFalse=>cases e
  rename_i q;rw[We]at e;obtain⟨s,hs,rfl⟩:=e;have l:VS D s v∧(∀x,(ownBl s).count x≤(bA rd).count x)∧(∀u∈aj s,Holds w' u∧u.fine=true)∧(∀u∈rootsO s,u.isOwn=true→OwnT w' u)∧Ja w' s∧(∀k b ts off,s ≠ .im k b ts off)∧(∀f caps,s ≠ .fni f caps):=by
   have j:∀r∈rd,∀u∈r.2,Holds w' u∧u.fine=true:=fun r g u c=>⟨R.holds r (by simp[g]) u c,R.fine r (by simp[g]) u c⟩
   have h:∀r∈rd,∀u∈r.2,u.isOwn=true→OwnT w' u:=fun r g u c y=>R.own r (by simp[g]) u c y
   unfold rY at hs;split at hs
   ·rename_i r;split at hs
    ·rename_i b row A;cases hs;obtain⟨B,C,F,m,G⟩:=R.ptr rfl A;exact⟨B,fun x=>Nat.le_of_eq (G x),fun u c=>⟨(m u c).1,(m u c).2.2⟩,fun u c=>(m u c).2.1,⟨C,F⟩,by simp,by simp⟩
    ·rename_i H;obtain⟨J,ts⟩:=r;rcases R.val with⟨r,g,hv⟩|⟨i,_⟩|⟨d,z,row,g,_⟩
     ·cases g;cases J with
      |true =>cases hs;simp only[VPart,WN]at hv;exact⟨hv,fun x=>by simp[ownBl,bA],fun u c=>j _ (WP _) u c,fun u c=>h _ (WP _) u c,trivial,by simp,by simp⟩
      |false =>simp only[VPart,WC,W2]at hv;obtain⟨t',rfl,n⟩:=hv;cases hs;exact⟨n,fun x=>by simp[ownBl,bA],fun u c=>j _ (WP _) u c,fun u c=>h _ (WP _) u c,trivial,by simp,by simp⟩
     ·exact absurd rfl i
     ·cases g;cases hs
   ·rename_i i;cases hs;rcases R.val with⟨r,g,hv⟩|⟨_,hv⟩|⟨d,z,row,g,_⟩
    ·exact absurd g (i r)
    ·refine⟨hv,fun x=>WU _,fun u c=>?_,fun u c=>?_,trivial,by simp,by simp⟩
     ·simp only[aj,Wq]at c;obtain⟨r,g,c⟩:=c;exact j r g u c
     ·simp only[rootsO,Wq]at c;obtain⟨r,g,c⟩:=c;exact h r g u c
    ·exact absurd g (i _)
  obtain⟨K,n,o,L,M,N,O⟩:=l;have S:eW cx D s:=by
   have g:∀u∈aj s,bK cx D u:=fun u c=>xC (o u c).2
   cases s with
   |im k b ts off=>exact absurd rfl (N k b ts off)
   |fni f caps=>exact absurd rfl (O f caps)
   |_=>exact g
  refine Inv.put (P:=P) (Q:=[]) (by simpa using I) q K ⟨fun u c=>(o u c).1,L,M⟩ S ?_;intro b;rw[p.cnt, ←rX];exact n b
theorem Inv.putRet {cx:Cx}{D D':DSt}{a:Act}{w w':World}(I:Inv cx D [] a.tmps w)(g:Grew w w'){bx:List Nat}{rd:em}{v:Value}(R:RetOk w [] w' bx [] rd v){dst:Option Nat}
  (e:putRet mkD D dst rd=some D'):Inv cx D' [] (a.put dst v).tmps w':=by
 obtain⟨P,c⟩:=fL R.each;have h:=I.world (Out.nil cx D) (g.x []) (R.pend (fun t d=>by
  obtain⟨r,i,d⟩:=Wq.1 d;exact⟨r,by simpa using i,d⟩) c cx) (fun b hb=>by
  rw[c.cnt, ←rX]at hb ⊢;have j:=R.once b;rw[WI]at j;obtain⟨k,l⟩:=R.new b (by rw[WI];exact Wz.1 hb);have f:w.heap.size≤b:=k.elim id fun q=>by cases q
  refine⟨by omega,?_,.inl (W6 I.frame.size f),l⟩;rcases W4 (bv D b)with q|q
  ·exact q
  ·have:=(I.bnd b (by omega)).2;omega)
 exact h.putRetP R c e
theorem OJ (t:DT):ug mkU t.er=(ug mkD t).map fun p=>((),erL p.2):=by
 cases t with
 |v x=>rfl
 |any=>rfl
 |s k d z rows =>
  rw[aC]
  match rows with
  |[]=>cases k<;>rfl
  |[row]=>
   cases k with
   |own =>simp only[Wv,WM,ug];rw[show(erL row).all T.fine=row.all T.fine from jw T.fine T.fine qY row];split<;>rfl
   |far=>rfl
   |lent h c a=>rfl
  |r1::b::rs=>cases k<;>rfl
theorem Sr (r:Bool×List DT):yr mkU (r.1,erL r.2)=(yr mkD r).map fun p=>((),erL p.2):=by
 obtain⟨g,ts⟩:=r;cases g with
 |true=>rfl
 |false =>
  match ts with
  |[]=>rfl
  |[t]=>rfl
  |[t,u]=>
   cases u with
   |any=>exact OJ t
   |v x=>rfl
   |s k d z r=>simp only[erL,Wv,WM,aC];rfl
  |t::u::v::ts=>cases u<;>rfl
theorem JD (rd:em):(rY mkU (erR rd):Option (Sl Unit Unit))=(rY mkD rd:Option DSl).map Sl.er:=by
 match rd with
 |[]=>rfl
 |[r]=>
  simp only[erR,Wv,WM,rY];rw[Sr];cases yr mkD r with
  |none=>exact wV r.1 r.2
  |some p=>rfl
 |r::a::rs=>rfl
theorem GR (D:DSt)(dst:Option Nat)(rd:em):putRet mkU (erD D) dst (erR rd)=(putRet mkD D dst rd).map erD:=by
 cases dst with
 |none=>rfl
 |some t =>
  simp only[putRet,fC];split
  ·rw[JD];cases(rY mkD rd:Option DSl)with
   |none=>rfl
   |some s=>simp only[Wc,cv]
  ·rfl
theorem QA (D:DSt)(x:Operand):boolOf mkU (erD D) x=boolOf mkD D x:=by
 simp only[boolOf,cE];cases opd mkD.nil D x with
 |none=>rfl
 |some s =>
  cases s with
  |one u =>
   cases u with
   |s k d z r=>simp[Sl.er,aC]
   |v x=>cases x<;>rfl
   |any=>rfl
  |_=>rfl
theorem Inv.boolOf {cx:Cx}{D:DSt}{P:List (DT×Value)}{a:Act}{w:World}(I:Inv cx D P a.tmps w){x:Operand}{b:Bool}(e:boolOf mkD D x=some b):a.eval x = .bool b:=by
 unfold Am.boolOf at e;split at e
 ·rename_i c h;cases e;exact(I.opd h).val.1
 ·cases e
theorem Inv.lose {cx:Cx}{D:DSt}{tm:Array Value}{w:World}(I:Inv cx D [] tm w){t:Nat}(d:t<D.length):Inv cx (ba D (some t) .any) [] tm w:=by
 have h:=Inv.put (P:=[]) (Q:=[]) (s := .any) (y:=tm.getD t undef) (by simpa using I) d trivial ⟨fun u a=>by simp[aj]at a,fun u a=>by simp[rootsO]at a,trivial⟩
  (fun u a=>by simp[aj]at a) (fun b=>by simp[ownBl])
 have c:t<tm.size:=by rw[←I.size];exact d
 have:tm.setIfInBounds t (tm.getD t undef)=tm:=by
  apply Array.ext
  ·simp
  ·intro i f g;rw[YM];split
   ·rename_i e;subst e;simp[Array.getD,c]
   ·rfl
 rw[this]at h;exact h
section
variable  {δ β : Type}
def T.rootOf:T δ→Option (Nat×Nat)| .s (.lent h c true) _ _ _=>some (h,c)|_=>none
def ow:Nat→List (T δ)→Option (Nat×Nat×Nat)
 |_,[]=>none
 |j,u::us=>match u.rootOf with|some (h,c)=>some (h,c,j)|none=>ow (j+1) us
def fy:List (T δ)→List (T δ)→List (T δ)|t::ts,u::us=>(if t.isOwn=true then t else u)::fy ts us|_,_=>[]
def qD (h:Nat):Nat→List (T δ)→List (T δ)→Bool|_,[],[]=>true|j,t::ts,u::us=>(if t.isOwn=true then decide (u.rootOf=some (h,j))else(u.noLent && !u.isOwn))&&qD h (j+1) ts us|_,_,_=>false
def aggNode (D:St δ β)(ts:List (T δ))(h c j:Nat):Option (Sl δ β×St δ β):=
 match av D h c with
 |some (.s .own d z rows)=>if((ts.set j .any).all T.noLent=true∧(ts.set j .any).any T.isOwn=false)then(dL (fun _=>some .any) (St.dead (dm h c) (qHC h c) D) h c []).map fun D'=>(.agg (ts.set j (.s .own d z rows)),D')else none
 |_=>none
def homeTake (D:St δ β)(x:Operand):Option (Sl δ β×St δ β):=
 match x with
 | .tmp t =>
  match D[t]? with
  |some (.box b ts)=>if ts.all T.noLent=true then some (.box b ts,bc t D)else none
  |some (.pb h off)=>
   if off=0 then
    match D[h]? with
    |some (.box b ts)=>if ts.all T.noLent=true then some (.box b ts,bc h D)else none
    |_=>none
   else none
  |some (.al h c st lo len)=>
   match cX D h c st with
   |some (.s .own d z rows)=>if lo=0∧len=rows.length then(dL (fun _=>some .any) (St.dead (dm h c) (qHC h c) D) h c st).map fun D'=>(.one (.s .own d z rows),D')else none
   |_=>none
  |some (.one u)=>if u.isOwn=true then some (.one u,bc t D)else
   match u.rootOf with
   |some (h,c)=>
    match av D h c with
    |some (.s .own d z rows)=>(dL (fun _=>some .any) (St.dead (dm h c) (qHC h c) D) h c []).map fun D'=>(.one (.s .own d z rows),D')
    |_=>none
   |none=>none
  |some (.agg ts)=>if ts.all T.noLent=true then(if ts.any T.isOwn=true then some (.agg ts,bc t D)else none)else
   match ow 0 ts with
   |some (h,c,j)=>
    match D[h]? with
    |some (.box _ a)=>if qD h 0 a ts=true∧a.all T.noLent=true∧(fy a ts).any T.isOwn=true then some (.agg (fy a ts),bc h D)else aggNode D ts h c j
    |_=>aggNode D ts h c j
   |none=>none
  |_=>none
 |_=>none
def l9 (rows:List (List (T δ))):T δ→Option (T δ)| .s k d z _=>some (.s k d z rows)|_=>none
def kw:List (T δ)→List (T δ)→List (T δ)|t::ts,u::us=>(if t.isOwn=true then u else t)::kw ts us|_,_=>[]
def nodePut (D:St δ β)(h c:Nat)(u:T δ):Option (St δ β):=
 match av D h c,u with
 |some (.s _ _ z _),.s .own _ b a=>if b=z then dL (l9 a) (St.dead (dm h c) (ny h c) D) h c []else none
 |_,_=>none
def homePut0 (D D1:St δ β)(x:Operand)(o:Bool×List (T δ)):Option (St δ β):=
 match x with
 | .tmp t =>
  match D[t]? with
  |some (.box b _)=>some (ba D1 (some t) (.box b o.2))
  |some (.pb h _)=>
   match D[h]? with
   |some (.box b _)=>some (ba D1 (some h) (.box b o.2))
   |_=>none
  |some (.al h c st _ _)=>
   match cX D h c st,o.2 with
   |some (.s _ _ z _),[.s .own _ f a]=>if f=z then dL (l9 a) (St.dead (dm h c) (ny h c) D) h c st else none
   |_,_=>none
  |some (.one u)=>
   match o.2 with
   |[.s .own d z rows]=>if u.isOwn=true then some (ba D1 (some t) (.one (.s .own d z rows)))else
    match u.rootOf with
    |some (h,c)=>nodePut D h c (.s .own d z rows)
    |none=>none
   |_=>none
  |some (.agg ts)=>if ts.all T.noLent=true then some (ba D1 (some t) (.agg o.2))else
   match ow 0 ts with
   |some (h,c,j)=>
    match D[h]? with
    |some (.box b e)=>if qD h 0 e ts=true∧e.all T.noLent=true∧(fy e ts).any T.isOwn=true then some (ba D1 (some h) (.box b (kw e o.2)))else(o.2[j]?).bind (nodePut D h c)
    |_=>(o.2[j]?).bind (nodePut D h c)
   |none=>none
  |_=>none
 |_=>none
end
theorem vq (t:DT):t.er.rootOf=t.rootOf:=by
 cases t with
 |v x=>rfl
 |any=>rfl
 |s k d z r =>
  rw[aC];cases k with
  |lent h c a=>cases a<;>rfl
  |_=>rfl
theorem Ab:∀(j:Nat)(us:List DT),ow j (erL us)=ow j us
 |_,[]=>rfl
 |j,u::us=>by
  simp only[erL,Wv,ow,vq];cases u.rootOf with
  |some p=>rfl
  |none=>exact Ab (j+1) us
theorem Fn:∀(ts us:List DT),erL (fy ts us)=fy (erL ts) (erL us)
 |[],us=>by cases us<;>rfl
 |t::ts,[]=>rfl
 |t::ts,u::us=>by have a:=Fn ts us;simp only[erL,Wv,fy,dw]at a ⊢;rw[a];cases t.isOwn<;>rfl
theorem NN:∀(ts us:List DT),erL (kw ts us)=kw (erL ts) (erL us)
 |[],us=>by cases us<;>rfl
 |t::ts,[]=>rfl
 |t::ts,u::us=>by have a:=NN ts us;simp only[erL,Wv,kw,dw]at a ⊢;rw[a];cases t.isOwn<;>rfl
theorem Ac (h:Nat):∀(j:Nat)(ts us:List DT),qD h j (erL ts) (erL us)=qD h j ts us
 |_,[],[]=>rfl
 |_,[],u::us=>rfl
 |_,t::ts,[]=>rfl
 |j,t::ts,u::us=>by have a:=Ac h (j+1) ts us;simp only[erL,Wv,qD,dw,vq,lg]at a ⊢;rw[a]
theorem vo (ts:List DT):(erL ts).any T.isOwn=ts.any T.isOwn:=by simp only[erL,YC];congr 1;funext t;exact dw t
theorem mG (ts:List DT):(erL ts).all T.noLent=ts.all T.noLent:=jw T.noLent T.noLent lg ts
theorem GS (ts:List DT)(j:Nat)(u:DT):(erL ts).set j u.er=erL (ts.set j u):=by simp[erL,Ye]
theorem Jy (D:DSt)(h c:Nat):dL (fun _=>some .any) (St.dead (dm h c) (qHC h c) (erD D)) h c []=(dL (fun _=>some .any) (St.dead (dm h c) (qHC h c) D) h c []).map erD:=by rw[show St.dead (dm h c) (qHC h c) (erD D)=erD (St.dead (dm h c) (qHC h c) D)from(mF _ _ D).symm,qZ (f:=fun _=>some .any) (fun _=>rfl)]
theorem xT (D:DSt)(ts:List DT)(h c j:Nat):aggNode (erD D) (erL ts) h c j=(aggNode D ts h c j).map fun r=>(r.1.er,erD r.2):=by
 unfold aggNode;rw[lf];cases av D h c with
 |none=>rfl
 |some n =>
  cases n with
  |v x=>rfl
  |any=>rfl
  |s k d z rows =>
   cases k with
   |own =>
    simp only[Wc,aC];rw[show(erL ts).set j (T.any:T Unit)=erL (ts.set j .any)from GS ts j .any,mG,vo];split
    ·rw[Jy,Xc,Xc];congr 1;funext D';simp only[Function.comp,Sl.er];rw[←GS,aC]
    ·rfl
   |_=>simp[aC]
theorem DO (D:DSt)(h c:Nat)(u:DT):nodePut (erD D) h c u.er=(nodePut D h c u).map erD:=by
 unfold nodePut;rw[lf];cases av D h c with
 |none=>rfl
 |some n =>
  cases n with
  |v x=>rfl
  |any=>rfl
  |s k d z rows =>
   simp only[Wc,aC];cases u with
   |v x=>rfl
   |any=>rfl
   |s k' b e a =>
    rw[aC];cases k' with
    |own =>
     simp only;split
     ·rw[show St.dead (dm h c) (ny h c) (erD D)=erD (St.dead (dm h c) (ny h c) D)from(mF _ _ D).symm,qZ (f:=l9 a)];intro t;cases t<;>simp[l9,aC,dz,wR]
     ·rfl
    |_=>rfl
theorem L4 (D:DSt)(x:Operand):homeTake (erD D) x=(homeTake D x).map fun r=>(r.1.er,erD r.2):=by
 cases x with
 |tmp t =>
  simp only[homeTake,cf];cases D[t]? with
  |none=>rfl
  |some s =>
   cases s with
   |box b ts =>
    simp only[Wc,Sl.er];rw[jw T.noLent T.noLent lg];split
    ·simp only[Wc,kb,Sl.er]
    ·rfl
   |pb h off =>
    simp only[Wc,Sl.er,cf];split
    ·cases D[h]? with
     |none=>rfl
     |some s =>
      cases s with
      |box b ts =>
       simp only[Wc,Sl.er];rw[jw T.noLent T.noLent lg];split
       ·simp only[Wc,kb,Sl.er]
       ·rfl
      |_=>rfl
    ·rfl
   |al h c st lo len =>
    simp only[Wc,Sl.er,sr];cases cX D h c st with
    |none=>rfl
    |some n =>
     cases n with
     |v x=>rfl
     |any=>rfl
     |s k d z rows =>
      cases k with
      |own =>
       simp only[Wc,aC,WH];split
       ·rw[show St.dead (dm h c) (qHC h c) (erD D)=erD (St.dead (dm h c) (qHC h c) D)from(mF _ _ D).symm,qZ (f:=fun _=>some .any) (fun _=>rfl),Xc,Xc];congr 1;funext D';simp[Sl.er,aC]
       ·rfl
      |_=>simp[aC]
   |one u =>
    simp only[Wc,Sl.er,dw];split
    ·simp only[Wc,kb,Sl.er]
    ·rw[vq];cases u.rootOf with
     |none=>rfl
     |some p =>
      obtain⟨h,c⟩:=p;simp only[lf];cases av D h c with
      |none=>rfl
      |some n =>
       cases n with
       |v x=>rfl
       |any=>rfl
       |s k d z rows =>
        cases k with
        |own =>simp only[Wc,aC];rw[Jy,Xc,Xc];congr 1;funext D';simp[Sl.er,aC]
        |_=>simp[aC]
   |agg ts =>
    simp only[Wc,Sl.er];rw[mG,vo,Ab];split
    ·split
     ·simp only[Wc,kb,Sl.er]
     ·rfl
    ·cases ow 0 ts with
     |none=>rfl
     |some p =>
      obtain⟨h,c,j⟩:=p;simp only[cf];cases D[h]? with
      |none=>exact xT D ts h c j
      |some s =>
       cases s with
       |box b a =>
        simp only[Wc,Sl.er];rw[Ac,mG, ←Fn,vo];split
        ·simp only[Wc,kb,Sl.er]
        ·exact xT D ts h c j
       |_=>exact xT D ts h c j
   |_=>rfl
 |_=>rfl
theorem L3 (D D1:DSt)(x:Operand)(o:Bool×List DT):homePut0 (erD D) (erD D1) x (o.1,erL o.2)=(homePut0 D D1 x o).map erD:=by
 cases x with
 |tmp t =>
  simp only[homePut0,cf];cases D[t]? with
  |none=>rfl
  |some s =>
   cases s with
   |box b ts=>simp only[Wc,Sl.er,cv]
   |pb h off =>
    simp only[Wc,Sl.er,cf];cases D[h]? with
    |none=>rfl
    |some s=>cases s<;>first|rfl|simp only[Wc,Sl.er,cv]
   |al h c st lo len =>
    simp only[Wc,Sl.er,sr];cases cX D h c st with
    |none=>rfl
    |some n =>
     cases n with
     |v x=>rfl
     |any=>rfl
     |s k d z rows =>
      simp only[Wc,aC];obtain⟨g,us⟩:=o
      match us with
      |[]=>rfl
      |[.v x]=>rfl
      |[.any]=>rfl
      |[.s .far e i a]=>simp[aC]
      |[.s (.lent _ _ _) e i a]=>simp[aC]
      |[.s .own e i a]=>
       simp only[Wv,WM,aC];split
       ·rw[show St.dead (dm h c) (ny h c) (erD D)=erD (St.dead (dm h c) (ny h c) D)from(mF _ _ D).symm,qZ (f:=l9 a)];intro t;cases t<;>simp[l9,aC,dz,wR]
       ·rfl
      |u::u'::us =>
       cases u with
       |v x=>rfl
       |any=>rfl
       |s k d z r=>cases k<;>rfl
   |one u =>
    simp only[Wc,Sl.er];obtain⟨g,us⟩:=o
    match us with
    |[]=>rfl
    |[.v x]=>rfl
    |[.any]=>rfl
    |[.s .far e i a]=>simp[aC]
    |[.s (.lent _ _ _) e i a]=>simp[aC]
    |[.s .own e i a]=>
     simp only[Wv,WM,aC,dw,vq];split
     ·simp[aC,cv,Sl.er]
     ·cases u.rootOf with
      |none=>rfl
      |some p =>have:=DO D p.1 p.2 (.s .own e i a);rw[aC]at this;exact this
    |u::u'::us =>
     cases u with
     |v x=>rfl
     |any=>rfl
     |s k d z r=>cases k<;>rfl
   |agg ts =>
    simp only[Wc,Sl.er,mG,Ab];split
    ·simp only[Wc,Sl.er,cv]
    ·have hb:∀(h c j:Nat),((erL o.2)[j]?).bind (nodePut (erD D) h c)=((o.2[j]?).bind (nodePut D h c)).map erD:=by
      intro h c j;simp only[erL,Wr];cases o.2[j]? with
      |none=>rfl
      |some u=>exact DO D h c u
     cases ow 0 ts with
     |none=>rfl
     |some p =>
      obtain⟨h,c,j⟩:=p;simp only[cf];cases D[h]? with
      |none=>exact hb h c j
      |some s =>
       cases s with
       |box b l =>
        simp only[Wc,Sl.er];rw[Ac,mG, ←Fn,vo];split
        ·simp only[Wc,cv,Sl.er,NN]
        ·exact hb h c j
       |_=>exact hb h c j
   |_=>rfl
 |_=>rfl
theorem pS {δ β:Type}(t:Nat)(D:St δ β):(bc t D).length=D.length:=by simp[bc,St.dead]
theorem eY {α:Type}{l:List α}{t:Nat}{x:α}(h:l[t]?=some x):t<l.length:=by
 rcases Wl t l.length with g|g
 ·exact g
 ·rw[Wh g]at h;cases h
theorem BV {D:DSt}{t:Nat}{s:DSl}(h:D[t]?=some s)(b:Nat):bv (bc t D) b+(ownBl s).count b=bv D b:=by
 have hs:(cV t D)[t]?=some (s.clean t):=by unfold cV;rw[Wr];unfold St.dead;rw[Wr,h];rfl
 have a:=bR ownBl (.any:DSl) b (cV t D) t _ hs;have d:(ownBl (.any:DSl)).count b=0:=rfl;have e:=DF t D b;rw[Cl]at a;have c:bc t D=(cV t D).set t .any:=rfl;rw[c];unfold bv at *;omega
theorem N9 {tm:Array Value}{t:Nat}(a:t<tm.size):tm.setIfInBounds t (tm.getD t undef)=tm:=by
 apply Array.ext
 ·simp
 ·intro i b c;rw[YM];split
  ·rename_i e;subst e;simp[Array.getD,a]
  ·rfl
theorem Inv.takeSlot {cx:Cx}{D:DSt}{tm:Array Value}{w:World}(I:Inv cx D [] tm w){t:Nat}{s:DSl}{y:Value}(hs:D[t]?=some s)(l:(∃b ts,s = .box b ts)∨(∃u,s = .one u)∨∃ts,s = .agg ts)
  (L:∀u∈rootsO s,u.noLent=true) (hv:∀D,VS D s y):∃P,Inv cx (bc t D) P tm w∧Out cx (bc t D) (ownBl s)∧AOk w (ownBl s) s y∧∀b,(ownBl s).count b≤1:=by
 have a:=Wd hs;have M:=I.mem s a;have m:=I.kind s a;have i:aj s=rootsO s:=by rcases l with⟨b,ts,rfl⟩|⟨u,rfl⟩|⟨ts,rfl⟩<;>rfl
 have n:∀u∈rootsO s,∃y,VT u y:=by
  have B:=I.val t s hs;rcases l with⟨b,ts,rfl⟩|⟨u,rfl⟩|⟨ts,rfl⟩
  ·obtain⟨c,e,f,N,o⟩:=M.2.2.1;intro u g;obtain⟨j,Q⟩:=Wm g;obtain⟨y,_,R⟩:=o j u Q;exact⟨y,R⟩
  ·intro v hv;simp[rootsO]at hv;subst hv;exact⟨_,B⟩
  ·obtain⟨cs,_,o⟩:=B;exact o.each
 obtain⟨P,G⟩:=fL n;have C:∀b,((rootsO s).flatMap ownR).count b≤(ownBl s).count b:=by
  intro b;rcases l with⟨H,ts,rfl⟩|⟨u,rfl⟩|⟨ts,rfl⟩
  ·simp only[rootsO,ownBl,Xn];omega
  ·simp[rootsO,ownBl]
  ·simp[rootsO,ownBl]
 have q:∀p∈P,p.1∈rootsO s:=fun p A=>by rw[←G.1];exact Wx.2 ⟨p,A,rfl⟩
 have J:=Inv.take I (cs:=P) hs (fun p A=>⟨q p A,i ▸ q p A,G.2 p A⟩) (fun p A h c S d z r e=>by have:=L _ (q p A);rw[e]at this;cases this) (fun b=>by rw[G.cnt];exact C b) (by rcases l with⟨H,ts,rfl⟩|⟨u,rfl⟩|⟨ts,rfl⟩<;>simp) (by rcases l with⟨H,ts,rfl⟩|⟨u,rfl⟩|⟨ts,rfl⟩<;>simp);rw[WG]at J;have F:∀b,(ownBl s).count b≤1:=fun b=>by have N:=BV hs b;have o:=I.once b;rw[cO]at o;omega
 have O:Out cx (bc t D) (ownBl s):=fun b hb=>by have W:=Wz.2 hb;have N:=BV hs b;have o:=I.once b;rw[cO]at o;have X:=cI a hb;exact⟨(I.bnd b (by omega)).1,by omega⟩
 refine⟨P,J,O,⟨hv,M,fun D'=>?_,fun b hb=>⟨hb,(I.bnd b (by have:=cI a hb;omega)).2⟩⟩,F⟩;have K:∀u∈rootsO s,bK cx D u→bK ⟨w,ownBl s⟩ D' u:=by
  intro u g l;have U:=L u g;cases u with
  |v x=>trivial
  |any=>trivial
  |s k d z r =>
   cases k with
   |own=>trivial
   |lent h c S=>cases U
   |far=>exact fun x V=>J.farX O (l x V)
 rcases l with⟨H,ts,rfl⟩|⟨u,rfl⟩|⟨ts,rfl⟩
 ·exact fun u g=>K u g (m u g)
 ·exact fun u g=>K u g (m u g)
 ·exact fun u g=>K u g (m u g)
theorem kj {ts:List DT}(h:ts.all T.noLent=true):∀u∈ts,u.noLent=true:=fun u a=>Wt.1 h u a
theorem Dec.addr_sp {d:Dec}(h:d.sp=none):d.addr=if d.nil=true then none else some ⟨d.b,d.o,none⟩:=Dec.addr_none h
theorem Inv.alNode {cx:Cx}{D:DSt}{P:List (DT×Value)}{tm:Array Value}{w:World}(I:Inv cx D P tm w){t h c:Nat}{st:List (Nat×Nat)}{d:Dec}{z:Nat}{rows:List (List DT)}(i:D[t]?=some (.al h c st 0 rows.length))(b:cX D h c st=some (.s .own d z rows)):
  ∃u,av D h c=some u∧u.isOwn=true∧getN u st=some (.s .own d z rows)∧Holds w (.s .own d z rows)∧OwnT w (.s .own d z rows)∧VT (.s .own d z rows:DT) (tm.getD t undef):=by
 obtain⟨o,p,n,ad,a,j,k,q,e⟩:=I.val t _ i;obtain⟨t0,r,f,g1,l,g3,g4,m,g⟩:=I.node a;simp only[cX,g1,V9]at b;rw[g3]at b;cases b;refine⟨t0,g1,l,g3,m,g,?_⟩;show tm.getD t undef=_;rw[k,Y0,e rfl,Dec.addr_sp g.sp]
theorem Inv.nodeTake {cx:Cx}{D:DSt}{tm:Array Value}{w:World}(I:Inv cx D [] tm w){h c:Nat}{d:Dec}{z:Nat}{rows:List (List DT)}(g1:av D h c=some (.s .own d z rows)){D1:DSt}
  (e:dL (fun _=>some .any) (St.dead (dm h c) (qHC h c) D) h c []=some D1):
  ∃P,Inv cx D1 P tm w∧Out cx D1 (bl (.s .own d z rows))∧(∀b,(bl (.s .own d z rows)).count b≤1)∧(∀b∈bl (.s .own d z rows),b<w.heap.size)∧Holds w (.s .own d z rows)∧OwnT w (.s .own d z rows):=by
 have y:=I.dead (dm h c) (qHC h c);have i:=it (p:=dm h c) (q:=qHC h c) g1 rfl;unfold dL at e;rw[i,V9]at e;simp only[gl,V9]at e;obtain⟨A,B,f,o,j,r⟩:=ce g1;have k:=I.mem A f;have u:=k.1 _ o;have v:=k.2.1 _ j rfl;have g:=I.bl_once g1 rfl;have l:∀b∈bl (.s .own d z rows),0<bv D b:=fun b hb=>cI f (r rfl b hb)
 have m:∀b∈bl (.s .own d z rows),b<w.heap.size:=fun b hb=>(I.bnd b (by have:=l b hb;omega)).2
 have a:ownR (.s .own d z rows:DT)=bl (.s .own d z rows):=by simp[ownR,T.isOwn]
 have t:=y.upd (P':=[(.s .own d z rows,.slice d.addr rows.length d.cap)]) (w':=w) e
  {at_:=i,own:=rfl,holds := .any,ownT:=fun h=>(by cases h),kind := .inr rfl,val:=fun _ h=>h.one,
   cnt:=fun b=>by
    rw[ld,cO,a];have C:(ownR (.any:DT)).count b=0:=rfl;split
    ·omega
    ·have:=g b;omega,
   new:=fun b hb n=>by exfalso;rw[ld,cO,a]at n;have C:(ownR (.any:DT)).count b=0:=rfl;have:=m b (Wz.1 (by omega));omega,
   hides:=fun s hs=>(tF s hs).1,
   speak:=fun s hs st hsp=>absurd hsp ((tF s hs).2 st),
   size:=WU _,same:=fun _ _ _=>rfl,os:=rfl,tape:=rfl,output:=rfl,
   pend:=fun p x=>by rw[Wk]at x;subst x;exact⟨rfl,u,fun _=>v,fun h=>by cases h⟩ }
 refine⟨_,t,fun b hb=>?_,g,m,u,v⟩;have q1:=t.once b;rw[ld,cO,a]at q1;have F:=Wz.2 hb;exact⟨(t.bnd b (by rw[ld,cO,a];omega)).1,by omega⟩
theorem Inv.root {cx:Cx}{D:DSt}{u:DT}{h c:Nat}{y:Value}(b:u.rootOf=some (h,c))(e:bK cx D u)(hv:VT u y):∃d z rows,av D h c=some (.s .own d z rows)∧y = .slice d.addr rows.length d.cap:=by
 cases u with
 |v x=>cases b
 |any=>cases b
 |s k d z r =>
  cases k with
  |lent j l f =>
   cases f with
   |false=>cases b
   |true =>cases b;obtain⟨t,g1,m,g3,g4⟩:=e;obtain⟨g,a,rfl,i⟩:=g4 rfl;exact⟨d,g,a,g1,by rw[i];exact hv⟩
  |_=>cases b
theorem wB:∀{j:Nat}{us:List DT}{h c i:Nat},ow j us=some (h,c,i)→∃u,j≤i∧us[i-j]?=some u∧u.rootOf=some (h,c)
 |j,[],h,c,i,e=>by cases e
 |j,u::us,h,c,i,e=>by
  unfold ow at e;cases a:u.rootOf with
  |some p =>rw[a]at e;cases e;exact⟨u,WU _,by simp,a⟩
  |none =>rw[a]at e;obtain⟨v,f,b,d⟩:=wB e;refine⟨v,by omega,?_,d⟩;rw[show i-j=(i-(j+1))+1 by omega];simpa using b
theorem EE {h:Nat}:∀{j:Nat}{ts us:List DT},qD h j ts us=true→ts.length=us.length∧∀(i:Nat)(t u:DT),ts[i]?=some t→us[i]?=some u →
  (t.isOwn=true→u.rootOf=some (h,j+i))∧(t.isOwn=false→u.noLent=true∧u.isOwn=false)
 |_,[],[],_=>⟨rfl,fun i t u h=>by simp at h⟩
 |_,[],u::us,e=>by cases e
 |_,t::ts,[],e=>by cases e
 |j,t::ts,u::us,e=>by
  unfold qD at e;rw[Ww]at e;obtain⟨a,d⟩:=e;obtain⟨f,g⟩:=EE d;refine⟨by simp[f],fun i t' u' hi b=>?_⟩;cases i with
  |zero =>
   simp at hi b;subst hi;subst b;split at a
   ·rename_i c;exact⟨fun _=>by simpa using a,fun q=>by rw[c]at q;cases q⟩
   ·rename_i c;refine⟨fun q=>absurd q c,fun _=>?_⟩;rw[Ww]at a;exact⟨a.1,by simpa using a.2⟩
  |succ i =>have:=g i t' u' (by simpa using hi) (by simpa using b);rw[show j+(i+1)=j+1+i by omega];exact this
theorem C5:∀{ts us:List DT}{i:Nat}{x:DT},(fy ts us)[i]?=some x→∃t u,ts[i]?=some t∧us[i]?=some u∧x=if t.isOwn=true then t else u
 |[],us,i,x,e=>by cases us<;>simp[fy]at e
 |t::ts,[],i,x,e=>by simp[fy]at e
 |t::ts,u::us,0,x,e=>by simp only[fy,W7,WO]at e;exact⟨t,u,rfl,rfl,e.symm⟩
 |t::ts,u::us,i+1,x,e=>by simp only[fy,X4]at e;obtain⟨t',u',a,b,c⟩:=C5 e;exact⟨t',u',by simpa using a,by simpa using b,c⟩
theorem KA:∀{ts us:List DT},ts.length=us.length→(fy ts us).length=ts.length
 |[],[],_=>rfl
 |[],u::us,h=>by simp at h
 |t::ts,[],h=>by simp at h
 |t::ts,u::us,h=>by simp only[fy,WL];rw[KA (by simpa using h)]
theorem KB:∀{ts us:List DT},(∀(i:Nat)(t u:DT),ts[i]?=some t→us[i]?=some u→t.isOwn=false→u.isOwn=false)→∀b,((fy ts us).flatMap ownR).count b≤(ts.flatMap ownR).count b
 |[],us,_,b=>by cases us<;>simp[fy]
 |t::ts,[],_,b=>by simp[fy]
 |t::ts,u::us,h,b=>by
  have c:=KB (ts:=ts) (us:=us) (fun i t u d e=>h (i+1) t u (by simpa using d) (by simpa using e)) b;simp only[fy,WA,WD];cases a:t.isOwn with
  |true=>rw[Wa rfl];omega
  |false =>rw[Wo Xg,fz (h 0 t u rfl rfl a),fz a];simpa using c
theorem C6:∀{ts us:List DT}{i:Nat}{x:DT},(kw ts us)[i]?=some x→∃t u,ts[i]?=some t∧us[i]?=some u∧x=if t.isOwn=true then u else t
 |[],us,i,x,e=>by cases us<;>simp[kw]at e
 |t::ts,[],i,x,e=>by simp[kw]at e
 |t::ts,u::us,0,x,e=>by simp only[kw,W7,WO]at e;exact⟨t,u,rfl,rfl,e.symm⟩
 |t::ts,u::us,i+1,x,e=>by simp only[kw,X4]at e;obtain⟨t',u',a,b,c⟩:=C6 e;exact⟨t',u',by simpa using a,by simpa using b,c⟩
theorem KC:∀{ts us:List DT}(b:Nat),((kw ts us).flatMap ownR).count b≤(us.flatMap ownR).count b
 |[],us,b=>by cases us<;>simp[kw]
 |t::ts,[],b=>by simp[kw]
 |t::ts,u::us,b=>by
  have c:=KC (ts:=ts) (us:=us) b;simp only[kw,WA,WD];cases a:t.isOwn with
  |true=>rw[Wa rfl];omega
  |false=>rw[Wo Xg,fz a];simp;omega
theorem DV {u:DT}(h:u.noLent=true):u.isOwn=true∨bl u=[]∨∃d z r,u = .s .far d z r:=by
 cases u with
 |v x=>exact .inr (.inl (by simp[bl]))
 |any=>exact .inr (.inl (by simp[bl]))
 |s k d z r=>cases k<;>first|exact .inl rfl|exact .inr (.inr ⟨_,_,_,rfl⟩)|cases h
theorem GC {cx:Cx}{D D':DSt}{w:World}{X:List Nat}{u:DT}(a:u.noLent=true)(e:bK cx D u)(hf:∀b,cx.far b→(Cx.mk w X).far b):bK ⟨w,X⟩ D' u:=by
 cases u with
 |v x=>trivial
 |any=>trivial
 |s k d z r =>
  cases k with
  |own=>trivial
  |lent h c g=>cases a
  |far=>exact fun x f=>hf x (e x f)
theorem Inv.aggNode {cx:Cx}{D:DSt}{a:Act}{w:World}(I:Inv cx D [] a.tmps w){t:Nat}{ts:List DT}(hD:D[t]?=some (.agg ts)){h c j:Nat}{u:DT}(hj:ts[j]?=some u)(O:u.rootOf=some (h,c)){s:DSl}{D1:DSt}
  (e:Am.aggNode D ts h c j=some (s,D1)):∃d z rows,av D h c=some (.s .own d z rows)∧s = .agg (ts.set j (.s .own d z rows))∧ownBl s=bl (.s .own d z rows) ∧
   ∃P,Inv cx D1 P a.tmps w∧Out cx D1 (ownBl s)∧AOk w (ownBl s) s (a.eval (.tmp t))∧(∀b,(ownBl s).count b≤1)∧(cY s).isSome=true∧OwnT w (.s .own d z rows):=by
 obtain⟨cs,Q,m⟩:=I.val t _ hD;have o:=Wd hD;have R:=I.mem _ o;have C:=I.kind _ o;have n:j<ts.length:=eY hj;have p:j<cs.toList.length:=by rw[←m.1];exact n
 have G:=m.2 j u _ hj (Wg p);obtain⟨d,z,rows,g1,S⟩:=Inv.root O (C u (Wd hj)) G;unfold Am.aggNode at e;rw[g1]at e;simp only at e;split at e
 case isFalse=>cases e
 rename_i k;rw[We]at e;obtain⟨D',U,V⟩:=e;cases V;obtain⟨P,K,L,W,X,Y,M⟩:=I.nodeTake g1 U;have r:∀v∈ts.set j .any,v.isOwn=false:=by have:=k.2;rw[Yj]at this;intro v hv;have:=this v hv;simpa using this
 have F:∀b,((ts.set j (.s .own d z rows)).flatMap ownR).count b=(bl (.s .own d z rows)).count b:=by
  intro b;have q:=bR ownR (.s .own d z rows:DT) b ts j u hj;have B:=bR ownR (.any:DT) b ts j u hj;have Z:((ts.set j .any).flatMap ownR)=[]:=by rw[WB];exact fun v hv=>fz (r v hv)
  have q4:(ownR (.any:DT)).count b=0:=rfl;have q5:ownR (.s .own d z rows:DT)=bl (.s .own d z rows):=by simp[ownR,T.isOwn]
  rw[Z]at B;rw[q5]at q;simp only[Y6]at B;omega
 have g:∀(i:Nat)(v:DT),(ts.set j (.s .own d z rows))[i]?=some v→(i=j∧v = .s .own d z rows)∨(i≠j∧ts[i]?=some v∧v∈ts.set j .any):=by
  intro i v hi;by_cases q:i=j
  ·subst q;rw[Wp n]at hi;cases hi;exact .inl ⟨rfl,rfl⟩
  ·rw[Ws (fun H=>q H.symm)]at hi;exact .inr ⟨q,hi,Wd (i:=i) (by rw[Ws (fun H=>q H.symm)];exact hi)⟩
 have Z0:∀b,b∈ownBl (.agg (ts.set j (.s .own d z rows)))↔b∈bl (.s .own d z rows):=fun b=>by rw[←Wz, ←Wz];show 0<((ts.set j (.s .own d z rows)).flatMap ownR).count b↔_;rw[F]
 have f:ownBl (.agg (ts.set j (.s .own d z rows)))=bl (.s .own d z rows):=by
  show(ts.set j (.s .own d z rows)).flatMap ownR=_;have J:∀(l:List DT)(i:Nat),i<l.length→(∀v∈l.set i .any,v.isOwn=false)→(l.set i (.s .own d z rows)).flatMap ownR=bl (.s .own d z rows):=by
   intro l;induction l with
   |nil=>intro i hi;simp at hi
   |cons x l ih =>
    intro i hi hv;cases i with
    |zero =>
     simp only[List.set_cons_zero,WA];have:l.flatMap ownR=[]:=by rw[WB];exact fun v y=>fz (hv v (by simp[y]))
     rw[this];simp[ownR,T.isOwn]
    |succ i =>simp only[List.set_cons_succ,WA];rw[fz (hv x (by simp)),ih i (by simpa using hi) (fun v y=>hv v (by simp[y]))];rfl
  exact J ts j n r
 refine⟨d,z,rows,g1,rfl,f,P,K,?_,?_,?_,?_,M⟩
 ·rw[f];exact L
 ·rw[f];refine⟨fun _=>⟨cs,Q,⟨by rw[YD];exact m.1,fun i v y' hi A=>?_⟩⟩,⟨fun v hv=>?_,fun v hv N=>?_,trivial⟩,fun D' v hv=>?_,fun b hb=>?_⟩
  ·rcases g i v hi with⟨rfl,rfl⟩|⟨_,q,_⟩
   ·rw[Wg p]at A;cases A;exact S
   ·exact m.2 i v y' q A
  ·obtain⟨i,hi⟩:=Wm hv;rcases g i v hi with⟨rfl,rfl⟩|⟨_,q,_⟩
   ·exact Y
   ·exact R.1 v (Wd q)
  ·obtain⟨i,hi⟩:=Wm hv;rcases g i v hi with⟨rfl,rfl⟩|⟨_,q,B⟩
   ·exact M
   ·rw[r v B]at N;cases N
  ·obtain⟨i,hi⟩:=Wm hv;rcases g i v hi with⟨rfl,rfl⟩|⟨_,q,B⟩
   ·trivial
   ·exact GC (kj k.1 v B) (C v (Wd q)) fun b hb=>K.farX L hb
  ·rw[f]at hb;exact⟨hb,X b hb⟩
 ·intro b;rw[f];exact W b
 ·simp only[cY];rw[Wa]
  ·rfl
  ·rw[Xx];exact⟨_,List.mem_set n _,rfl⟩
theorem Inv.boxAgg {cx:Cx}{D:DSt}{a:Act}{w:World}(I:Inv cx D [] a.tmps w){t h:Nat}{ts c:List DT}{b:Nat×Nat}(hD:D[t]?=some (.agg ts))(hb:D[h]?=some (.box b c))(V:qD h 0 c ts=true)(W:c.all T.noLent=true):
  ∃P,Inv cx (bc h D) P a.tmps w∧Out cx (bc h D) (ownBl (.agg (fy c ts)))∧AOk w (ownBl (.agg (fy c ts))) (.agg (fy c ts)) (a.eval (.tmp t))∧(∀x,(ownBl (.agg (fy c ts))).count x≤1) ∧
   (Out cx (bc h D) (ownBl (.box b c))∧b.1∉ownBl (.agg (fy c ts))∧b.1<w.heap.size)∧∀cs:Array Value,a.eval (.tmp t)= .agg cs→∀(i:Nat)(x:DT)(y:Value),c[i]?=some x→x.isOwn=true→cs.toList[i]?=some y→VT x y:=by
 obtain⟨cs,O,F⟩:=I.val t _ hD;have p:=Wd hD;have X:=I.mem _ p;have G:=I.kind _ p;obtain⟨P,Q,R,J,S⟩:=I.takeSlot hb (.inl ⟨b,c,rfl⟩) (kj W) (y := .pointer (some ⟨b.1,b.2,none⟩)) (fun _=>rfl);obtain⟨l,e⟩:=EE V;have m:=KB (ts:=c) (us:=ts) (fun i t u q1 q2 j=>((e i t u q1 q2).2 j).2);have A:∀x∈ownBl (.agg (fy c ts)),x∈ownBl (.box b c):=fun x f=>by have q:=m x;have q2:=Wz.2 (show x∈(fy c ts).flatMap ownR from f);exact XJ _ (Wz.1 (by omega))
 have U:Out cx (bc h D) (ownBl (.agg (fy c ts))):=fun x f=>R x (A x f)
 have B:∀(i:Nat)(x:DT)(y:Value),c[i]?=some x→x.isOwn=true→cs.toList[i]?=some y→VT x y:=by
  intro i x y hi g o;have K:i<ts.length:=by rw[←l];exact eY hi
  have hu:=Wg K;have L:=(e i x _ hi hu).1 g;obtain⟨d,z,rows,g1,Y⟩:=Inv.root L (G _ (Wd hu)) (F.2 i _ y hu o);have:av D h (0+i)=some x:=by rw[XX];unfold av;rw[hb];exact hi
  rw[this]at g1;cases g1;exact Y
 have n:∀x∈fy c ts,(x∈c∧x.isOwn=true)∨(x∈ts∧x.noLent=true∧x.isOwn=false):=by
  intro x f;obtain⟨i,hi⟩:=Wm f;obtain⟨t',u',q1,q2,j⟩:=C5 hi;cases g:t'.isOwn with
  |true=>rw[g,Wa rfl]at j;subst j;exact .inl ⟨Wd q1,g⟩
  |false =>rw[g,Wo Xg]at j;subst j;have:=(e i t' x q1 q2).2 g;exact .inr ⟨Wd q2,this.1,this.2⟩
 have H:∀x,(ownBl (.agg (fy c ts))).count x≤1:=fun x=>by
  have q:=m x;have q2:=S x;have j:(ownBl (.box b c)).count x=(if b.1=x then 1 else 0)+(c.flatMap ownR).count x:=by simp only[ownBl,Xn,XW];omega
  show((fy c ts).flatMap ownR).count x≤1;omega
 have M:b.1∉ownBl (.agg (fy c ts)):=fun f=>by
  have q:=m b.1;have q1:=Wz.2 (show b.1∈(fy c ts).flatMap ownR from f);have q2:=S b.1;have j:(ownBl (.box b c)).count b.1=1+(c.flatMap ownR).count b.1:=by simp only[ownBl,YE];omega
  omega
 refine⟨P,Q,U,⟨fun _=>⟨cs,O,⟨by rw[KA l,l];exact F.1,fun i x y hi o=>?_⟩⟩,⟨fun x f=>?_,fun x f g=>?_,trivial⟩,fun D' x f=>?_,fun x f=>⟨f,(J.own x (A x f)).2⟩⟩,H,⟨R,M,(J.own b.1 (by simp[ownBl])).2⟩,fun N C=>?_⟩
 ·obtain⟨t',u',q1,q2,j⟩:=C5 hi;cases g:t'.isOwn with
  |true=>rw[g,Wa rfl]at j;subst j;exact B i x y q1 g o
  |false=>rw[g,Wo Xg]at j;subst j;exact F.2 i x y q2 o
 ·rcases n x f with⟨q,_⟩|⟨q,_⟩
  ·exact J.mem.1 x q
  ·exact X.1 x q
 ·rcases n x f with⟨q,_⟩|⟨q,_,q2⟩
  ·exact J.mem.2.1 x q g
  ·rw[q2]at g;cases g
 ·rcases n x f with⟨q,q2⟩|⟨q,q2,_⟩
  ·cases x with
   |v y=>trivial
   |any=>trivial
   |s k d z r=>cases k<;>first|trivial|cases q2
  ·exact GC q2 (G x q) fun b hb=>Q.farX U hb
 ·have:N=cs:=by have hh:a.eval (.tmp t)= .agg cs:=O;rw[hh]at C;cases C;rfl
  subst this;exact B
theorem Inv.homeTake {cx:Cx}{D:DSt}{a:Act}{w:World}(I:Inv cx D [] a.tmps w){x:Operand}{s:DSl}{D1:DSt}(e:Am.homeTake D x=some (s,D1)):
  ∃P,Inv cx D1 P a.tmps w∧Out cx D1 (ownBl s)∧AOk w (ownBl s) s (a.eval x)∧(∀b,(ownBl s).count b≤1)∧(cY s).isSome=true:=by
 cases x with
 |tmp t =>
  simp only[Am.homeTake]at e;split at e
  ·rename_i b ts hD;split at e
   case isFalse=>cases e
   rename_i q;cases e;obtain⟨P,f,g,l,n⟩:=I.takeSlot hD (.inl ⟨b,ts,rfl⟩) (kj q) (fun _=>I.val t _ hD);exact⟨P,f,g,l,n,rfl⟩
  ·rename_i h off hD;split at e
   case isFalse=>cases e
   rename_i A;subst A;split at e
   case h_2=>cases e
   rename_i b ts hb;split at e
   case isFalse=>cases e
   rename_i q;cases e;obtain⟨b',ts',B,S⟩:=I.val t _ hD;rw[hb]at B;cases B;obtain⟨P,f,g,l,n⟩:=I.takeSlot hb (.inl ⟨b,ts,rfl⟩) (kj q) (y:=a.eval (.tmp t)) (fun _=>S);exact⟨P,f,g,l,n,rfl⟩
  ·rename_i h c st lo len hD;split at e
   case h_2=>cases e
   rename_i d z rows U;split at e
   case isFalse=>cases e
   rename_i hc;obtain⟨rfl,rfl⟩:=hc;rw[We]at e;obtain⟨D2,H,e⟩:=e;cases e;have J:Am.cellsTake mkD D (.tmp t)=some (false,[.s .own d z rows],D1):=by simp only[Am.cellsTake,hD,U];rw[Wa (Or.inl trivial),H];simp[mkD]
   obtain⟨ys,P,f,g,l⟩:=I.cellsTake J;have K:ys=[a.eval (.tmp t)]:=by simpa[co]using l
   subst K;have i:∀b,(ownR (.s .own d z rows:DT)).count b≤aV P b:=fun b=>by simpa using g.cnt b
   have V:Out cx D1 (ownBl (.one (.s .own d z rows))):=fun b hb=>by have q1:=Wz.2 (show b∈ownR (.s .own d z rows:DT)from hb);have p:=i b;have C:=f.once b;exact⟨(f.bnd b (by omega)).1,by omega⟩
   refine⟨P,f,V,⟨fun _=>g.v.2 0 _ _ rfl rfl,⟨fun u F=>g.holds u F,fun u F G=>g.own u F G,trivial⟩,fun D' u F=>?_,fun b hb=>⟨hb,?_⟩⟩,fun b=>?_,rfl⟩
   ·rw[Wk.1 F];trivial
   ·have q1:=Wz.2 (show b∈ownR (.s .own d z rows:DT)from hb);have p:=i b;exact(f.bnd b (by omega)).2
   ·have p:=i b;have C:=f.once b;show(ownR (.s .own d z rows:DT)).count b≤1;omega
  ·rename_i u hD;split at e
   case isFalse =>
    split at e
    case h_2=>cases e
    rename_i h c L;split at e
    case h_2=>cases e
    rename_i d z rows hc;rw[We]at e;obtain⟨D',W,X⟩:=e;cases X;obtain⟨P,Y,Z,n3,n4,n5,n6⟩:=I.nodeTake hc W;obtain⟨d',z',M,g1,g2⟩:=Inv.root L (I.kind _ (Wd hD) u (by simp[aj])) (I.val t _ hD);rw[hc]at g1;cases g1;have o:ownBl (.one (.s .own d z rows):DSl)=bl (.s .own d z rows):=by simp[ownBl,ownR,T.isOwn]
    refine⟨P,Y,by rw[o];exact Z,⟨fun _=>g2,⟨fun v hv=>?_,fun v hv _=>?_,trivial⟩,fun D' v hv=>?_,fun b hb=>?_⟩,fun b=>by rw[o];exact n3 b,rfl⟩
    ·rw[Wk.1 hv];exact n5
    ·rw[Wk.1 hv];exact n6
    ·rw[Wk.1 hv];trivial
    ·exact⟨hb,n4 b (o ▸ hb)⟩
   rename_i G;cases e;obtain⟨P,f,g,l,n⟩:=I.takeSlot hD (.inr (.inl ⟨u,rfl⟩)) (fun v hv=>by
    simp[rootsO]at hv;subst hv;cases v with
    |v x=>rfl
    |any=>rfl
    |s k d z r=>cases k<;>first|rfl|cases G) (y:=a.eval (.tmp t)) (fun _=>I.val t _ hD)
   exact⟨P,f,g,l,n,by simp[cY,G]⟩
  ·rename_i ts hD;split at e
   case isFalse =>
    split at e
    case h_2=>cases e
    rename_i h c j N;obtain⟨u,_,hj,L⟩:=wB N;have m:Am.aggNode D ts h c j=some (s,D1)→∃P,Inv cx D1 P a.tmps w∧Out cx D1 (ownBl s)∧AOk w (ownBl s) s (a.eval (.tmp t))∧(∀b,(ownBl s).count b≤1)∧(cY s).isSome=true:=fun e=>by obtain⟨d,z,rows,_,_,_,P,q1,p,C,O,R,_⟩:=I.aggNode hD (by simpa using hj) L e;exact⟨P,q1,p,C,O,R⟩
    split at e
    case h_2=>exact m e
    rename_i b bs hb;split at e
    case isFalse=>exact m e
    rename_i hc;cases e;obtain⟨P,q1,p,C,O,R,_⟩:=I.boxAgg hD hb hc.1 hc.2.1;exact⟨P,q1,p,C,O,by simp only[cY];rw[Wa hc.2.2];rfl⟩
   rename_i q;split at e
   case isFalse=>cases e
   rename_i Q;cases e;obtain⟨P,f,g,l,n⟩:=I.takeSlot hD (.inr (.inr ⟨ts,rfl⟩)) (kj q) (y:=a.eval (.tmp t)) (fun _=>I.val t _ hD);exact⟨P,f,g,l,n,by simp only[cY];rw[Wa Q];rfl⟩
  ·cases e
 |_=>cases e
theorem Inv.back {cx:Cx}{D1:DSt}{P:List (DT×Value)}{tm:Array Value}{w w':World}(I:Inv cx D1 P tm w){X bx:List Nat}(i:Out cx D1 X)(g:GrewH X w w'){o:Bool×List DT}{rd:em}{v:Value}(R:RetOk w X w' bx [o] rd v)
  {f h:List (DT×Value)} (c:PendOf f o.2) (d:PendOf h (rd.flatMap (·.2))):Inv cx D1 (f++h) tm w'∧∀b,aV (f++h) b=(bA ([o]++rd)).count b:=by
 have a:∀b,aV (f++h) b=(bA ([o]++rd)).count b:=by intro b;rw[iU,c.cnt,d.cnt,mT,WD,rX rd];simp[bA]
 refine⟨I.world i g (fun p hp=>?_) (fun b hb=>?_),a⟩
 ·rcases WF.1 hp with hp|hp
  ·exact R.pend (fun t e=>⟨o,by simp,e⟩) c cx p hp
  ·exact R.pend (fun t e=>by obtain⟨r,k,e⟩:=Wq.1 e;exact⟨r,by simp[k],e⟩) d cx p hp
 ·rw[a]at hb ⊢;have l:=R.once b;obtain⟨n1,j⟩:=R.new b (Wz.1 hb);rcases n1 with n1|n1
  ·refine⟨by omega,?_,.inl (W6 I.frame.size n1),j⟩;rcases W4 (bv D1 b)with q|q
   ·exact q
   ·have:=(I.bnd b (by omega)).2;omega
  ·exact⟨by omega,(i b n1).2,(i b n1).1,j⟩
theorem Inv.putBack {cx:Cx}{D1:DSt}{P:List (DT×Value)}{tm:Array Value}{w w':World}(D:Inv cx D1 P tm w){X bx:List Nat}(r:Out cx D1 X)(g:GrewH X w w'){o:Bool×List DT}{rd:em}{v:Value}(R:RetOk w X w' bx [o] rd v)
  {t:Nat} (p:t<D1.length) {s':DSl} (hv:VS D1 s' (tm.getD t undef)) (F:aj s'=o.2) (d:rootsO s'=o.2) (q:Ja w' s') (s:(∃b,s' = .box b o.2∧bx=[b.1]∧b.1∈X∧b.1<w.heap.size)∨(∃u,s' = .one u)∨∃ts,s' = .agg ts)
  (f:∀u∈o.2,∃y,VT u y):∃i,PendOf i (rd.flatMap (·.2))∧Inv cx (ba D1 (some t) s') i tm w':=by
 obtain⟨z,c⟩:=fL f;obtain⟨i,k⟩:=fL R.each;obtain⟨A,hc⟩:=D.back r g R c k;have B:t<tm.size:=by rw[←D.size];exact p
 have a:MemS w' s':=⟨fun u l=>R.holds o (by simp) u (F ▸ l),fun u l H=>R.own o (by simp) u (d ▸ l) H,q⟩
 have j:∀u∈aj s',bK cx D1 u:=fun u l=>xC (R.fine o (by simp) u (F ▸ l))
 refine⟨i,k,?_⟩;rw[←N9 (tm:=tm) (t:=t) B];rcases s with⟨b,rfl,C,m,n⟩|⟨u,rfl⟩|⟨ts,rfl⟩
 ·refine Inv.putF (P:=z) (Q:=i) A (fun x=>if x=b.1 then 1 else 0) (fun x q=>?_) p hv a j (fun x=>?_)
  ·split at q
   ·rename_i e;subst e;have G:=R.once b.1;rw[C]at G;simp only[YE]at G;exact⟨by simp,by rw[hc,(r _ m).2];omega,(r _ m).1,WQ n g.size⟩
   ·cases q
  ·rw[c.cnt];simp only[ownBl,Xn];by_cases e:x=b.1
   ·subst e;simp
   ·have:(b.1==x)=false:=by simp;exact fun h=>e h.symm
    simp[this,e]
 ·refine Inv.put (P:=z) (Q:=i) A p hv a j (fun x=>?_);rw[c.cnt, ←d];simp[ownBl,rootsO]
 ·refine Inv.put (P:=z) (Q:=i) A p hv a j (fun x=>?_);rw[c.cnt, ←d];exact WU _
theorem Inv.nodeBack {cx:Cx}{D:DSt}{tm:Array Value}{w w':World}(I:Inv cx D [] tm w){h c:Nat}{st:List (Nat×Nat)}{u:DT}{d:Dec}{z:Nat}{rows:List (List DT)}(V:av D h c=some u)(W:u.isOwn=true)
  (X:getN u st=some (.s .own d z rows)) (F:OwnT w (.s .own d z rows)) (g:GrewH (bl (.s .own d z rows)) w w') {bx:List Nat} {o:Bool×List DT} {rd:em} {v:Value} (R:RetOk w (bl (.s .own d z rows)) w' bx [o] rd v)
  {e:Dec} {a:List (List DT)} (H:(.s .own e z a:DT)∈o.2) (k:Value.slice e.addr a.length e.cap = .slice d.addr rows.length d.cap):
  ∃Q n,dL (l9 a) (St.dead (dm h c) (ny h c) D) h c st=some Q∧PendOf n (rd.flatMap (·.2))∧Inv cx Q n tm w':=by
 simp only[Value.slice.injEq]at k;obtain⟨v1,v2,v3⟩:=k;have S:=R.holds o (by simp) (.s .own e z a) H;have J:=R.own o (by simp) (.s .own e z a) H rfl;have hd:e=d∨(d.nil=true∧a=[]∧d.sp=none∧d.cap=0):=by
  rw[Dec.addr_sp J.sp,Dec.addr_sp F.sp]at v1;cases j:d.nil with
  |true =>
   right;rw[j]at v1;have B:e.nil=true:=by
    cases q:e.nil with
    |true=>rfl
    |false=>rw[q]at v1;simp at v1
   refine⟨rfl,S.nilrows B,F.sp,?_⟩;cases F with
   |nil _ _ _ _ hc=>exact hc
   |s _ _ _ q=>rw[q]at j;cases j
  |false =>
   left;rw[j]at v1;cases q:e.nil with
   |true=>rw[q]at v1;simp at v1
   |false =>rw[q]at v1;simp only[WC,W2,WO,Addr.mk.injEq]at v1;have s1:=J.sp;have s2:=F.sp;cases d;cases e;simp_all
 have K:Holds w' (.s .own d z a):=by
  rcases hd with rfl|⟨q1,rfl,x,G⟩
  ·exact S
  ·exact .e .own d z
 have L:OwnT w' (.s .own d z a):=by
  rcases hd with rfl|⟨q1,rfl,x,G⟩
  ·exact J
  ·exact .nil d z q1 x G
 have C:∀b,(bl (.s .own d z a)).count b≤(bl (.s .own e z a)).count b:=by
  intro b;rcases hd with rfl|⟨q1,rfl,x,G⟩
  ·exact WU _
  ·rw[cJ,q1];simp
 obtain⟨n,A⟩:=fL R.each;have l:∀b,(bl (.s .own e z a)).count b+aV n b≤(bA ([o]++rd)).count b:=by
  intro b;rw[mT,WD,A.cnt,rX rd];refine Nat.add_le_add ?_ (WU _);obtain⟨i,hi⟩:=Wm H;have q:=bR ownR (.any:DT) b o.2 i _ hi;have M:(ownR (.any:DT)).count b=0:=rfl;have x:ownR (.s .own e z a:DT)=bl (.s .own e z a):=by simp[ownR,T.isOwn]
  rw[x]at q;have G:(bA [o]).count b=(o.2.flatMap ownR).count b:=by simp[bA]
  omega
 have N:NodeOk w w' (.s .own d z rows) (.s .own d z a):=⟨K,L,fun y Y=>by show y=_;rw[show y=_ from Y,v2],fun b hb O=>g.same b hb O⟩
 obtain⟨D',Z,U⟩:=I.updNode (P':=n) V W X (f:=l9 a) rfl N (fun _=>rfl) (p:=dm h c) (q:=ny h c) (by simp[dm]) (.inr (.inl ⟨by simp[ny],fun d2 z2 m ⟨U,r2,q1,M⟩=>by
   simp only[getN,WO,T.s.injEq]at q1;obtain⟨rfl,rfl,rfl,rfl⟩:=q1;exact⟨.own,a,rfl,by omega⟩⟩)) (fun b=>by
   have q1:=R.once b;have x:=l b;have M:=C b;split
   ·rename_i Z0;rcases W4 ((bl (.s .own e z a)).count b+aV n b)with q|q
    ·omega
    ·have:=R.new b (Wz.1 (by omega));rcases this.1 with q'|q'
     ·omega
     ·have:=Wz.2 q';omega
   ·omega) (fun b hb hp=>by
   have M:=C b;have x:=l b;exact(R.new b (Wz.1 (by omega))).2) g.size g.os g.tape g.output (R.pend (fun t P=>by
   obtain⟨r,hr,P⟩:=Wq.1 P;exact⟨r,by simp[hr],P⟩) A cx)
 exact⟨D',n,Z,A,U⟩
theorem G6 {d:Dec}{z:Nat}{rows:List (List DT)}:ownBl (.one (.s .own d z rows):DSl)=bl (.s .own d z rows):=by simp[ownBl,ownR,T.isOwn]
theorem Inv.nodePut {cx:Cx}{D j:DSt}{tm:Array Value}{w w':World}(I:Inv cx D [] tm w){h c:Nat}{d:Dec}{z:Nat}{rows:List (List DT)}(k:av D h c=some (.s .own d z rows))(l:OwnT w (.s .own d z rows))
  (g:GrewH (bl (.s .own d z rows)) w w') {bx:List Nat} {o:Bool×List DT} {rd:em} {v:Value} (R:RetOk w (bl (.s .own d z rows)) w' bx [o] rd v) {u:DT} (m:u∈o.2) (hv:VT u (.slice d.addr rows.length d.cap))
  (e:Am.nodePut D h c u=some j):∃a,PendOf a (rd.flatMap (·.2))∧Inv cx j a tm w':=by
 unfold Am.nodePut at e;rw[k]at e;split at e
 case h_2=>cases e
 rename_i r s z0 b t x f i;cases i;split at e
 case isFalse=>cases e
 rename_i hz;subst hz;obtain⟨y,a,n,p,q⟩:=I.nodeBack (st:=[]) k rfl rfl l g R m hv.symm;rw[n]at e;cases e;exact⟨a,p,q⟩
theorem Inv.boxBack {cx:Cx}{D D1:DSt}{P:List (DT×Value)}{tm:Array Value}{w w':World}(I:Inv cx D [] tm w){h:Nat}{b:Nat×Nat}{m:List DT}(hb:D[h]?=some (.box b m))(Y:m.all T.noLent=true)(Z:Inv cx (bc h D) P tm w){X bx:List Nat}
  (hX:Out cx (bc h D) X) (Z0:Out cx (bc h D) (ownBl (.box b m))) (L:b.1∉X) (C:b.1<w.heap.size) (g:GrewH X w w') {o:Bool×List DT} {rd:em} {v:Value} (R:RetOk w X w' bx [o] rd v)
  {cs:Array Value} (ho:VCells o.2 cs.toList) (M:∀(i:Nat)(x:DT)(y:Value),m[i]?=some x→x.isOwn=true→cs.toList[i]?=some y→VT x y):
  ∃N,PendOf N (rd.flatMap (·.2))∧Inv cx (ba (bc h D) (some h) (.box b (kw m o.2))) N tm w':=by
 obtain⟨Po,O⟩:=fL ho.each;obtain⟨N,S⟩:=fL R.each;obtain⟨I2,hc⟩:=Z.back hX g R O S;have F:=Wd hb;have hm:=I.mem _ F;have G:=I.kind _ F;have ht:h<(bc h D).length:=by rw[pS];exact eY hb
 have Z1:h<tm.size:=by rw[←Z.size];exact ht
 have same:w'.heap[b.1]?=w.heap[b.1]?:=g.same b.1 C L;have n:∀x∈kw m o.2,(x∈o.2)∨(x∈m∧x.isOwn=false):=by
  intro x H;obtain⟨i,hi⟩:=Wm H;obtain⟨t',u',q1,q2,B⟩:=C6 hi;cases l:t'.isOwn with
  |true=>rw[l,Wa rfl]at B;subst B;exact .inl (Wd q2)
  |false=>rw[l,Wo Xg]at B;subst B;exact .inr ⟨Wd q1,l⟩
 have p:∀x∈m,x.isOwn=false→∀y∈bl x,(Cx.mk w X).far y:=by
  intro x H Z2 y K;rcases DV (kj Y x H)with q|q|⟨d,z,r,rfl⟩
  ·rw[Z2]at q;cases q
  ·rw[q]at K;cases K
  ·exact Z.farX hX (G _ H y K)
 obtain⟨c,e,f,l1,l2⟩:=hm.2.2.1;refine⟨N,S,?_⟩;rw[←N9 (tm:=tm) (t:=h) Z1];refine Inv.putF (P:=Po) (Q:=N) I2 (fun x=>if x=b.1 then 1 else 0) (fun x H=>?_) ht (I.val h _ hb) ⟨fun u U=>?_,fun u U J=>?_,⟨⟨c,e,f,by rw[same];exact l1,fun j u hj=>?_⟩,fun c' e' lo Z3 V y h1 h2=>?_⟩⟩ (fun u U=>?_) (fun x=>?_)
 ·split at H
  ·rename_i A;subst A;have q0:=Z0 b.1 (by simp[ownBl]);refine⟨by simp,?_,q0.1,WQ C g.size⟩;rw[hc,q0.2];rcases W4 ((bA ([o]++rd)).count b.1)with q|q
   ·omega
   ·have:=(R.new b.1 (Wz.1 q)).1;rcases this with q'|q'
    ·omega
    ·exact absurd q' L
  ·cases H
 ·rcases n u U with q|⟨q,q2⟩
  ·exact R.holds o (by simp) u q
  ·exact(hm.1 u q).frame fun y K _=>g.same y (p u q q2 y K).1 (p u q q2 y K).2
 ·rcases n u U with q|⟨q,q2⟩
  ·exact R.own o (by simp) u q J
  ·rw[q2]at J;cases J
 ·obtain⟨t',u',q1,q2,B⟩:=C6 hj;obtain⟨y,y1,y2⟩:=l2 j t' q1;refine⟨y,y1,?_⟩;cases l:t'.isOwn with
  |false=>rw[l,Wo Xg]at B;subst B;exact y2
  |true =>
   rw[l,Wa rfl]at B;subst B;have Z4:j<cs.toList.length:=by rw[←ho.1];exact eY q2
   have W:=Wg Z4;have v1:=M j t' _ q1 l W;have v2:=ho.2 j _ _ q2 W;cases t' with
   |v x=>cases l
   |any=>cases l
   |s k d z r =>have e1:cs.toList[j]= .slice d.addr r.length d.cap:=v1;have e2:y = .slice d.addr r.length d.cap:=y2;rw[e2, ←e1];exact v2
 ·rw[same]at V;have Z5:(kw m o.2).length≤m.length:=by
   have:∀(a b:List DT),(kw a b).length≤a.length:=by
    intro a;induction a with
    |nil=>intro b;cases b<;>simp[kw]
    |cons x a ih=>intro b;cases b with
     |nil=>simp[kw]
     |cons y b=>simp only[kw,WL];have:=ih b;omega
   exact this m o.2
  exact hm.2.2.2 c' e' lo Z3 V y h1 (by omega)
 ·rcases n u U with q|⟨q,q2⟩
  ·exact xC (R.fine o (by simp) u q)
  ·rcases DV (kj Y u q)with q'|q'|⟨d,z,r,rfl⟩
   ·rw[q2]at q';cases q'
   ·cases u with
    |v x=>trivial
    |any=>trivial
    |s k d z r=>cases k<;>first|(cases q2;done)|exact G _ q|(have:=kj Y _ q;cases this)
   ·exact G _ q
 ·have q:=KC (ts:=m) (us:=o.2) x;rw[O.cnt];simp only[ownBl,Xn];by_cases A:x=b.1
  ·subst A;simp;omega
  ·have:(b.1==x)=false:=by simp;exact fun h=>A h.symm
   simp[this,A];omega
theorem Inv.homePut0 {cx:Cx}{D:DSt}{a:Act}{w w':World}(I:Inv cx D [] a.tmps w){x:Operand}{s:DSl}{D1 D2:DSt}(e:Am.homeTake D x=some (s,D1))(g:GrewH (ownBl s) w w'){o:Bool×List DT}{rd:em}{v:Value}
  (R:RetOk w (ownBl s) w' (cT s) [o] rd v) (B:Dt w' s (a.eval x) o) (i:Am.homePut0 D D1 x o=some D2):∃G,PendOf G (rd.flatMap (·.2))∧Inv cx D2 G a.tmps w':=by
 obtain⟨P,h1,h2,h3,h4,h5⟩:=I.homeTake e;have m:∀{b:Nat×Nat}{us:List DT},Lies w' b us→∀u∈us,∃y,VT u y:=by rintro b us ⟨c,e,f,q1,H⟩ u hu;obtain⟨j,S⟩:=Wm hu;obtain⟨y,_,hy⟩:=H j u S;exact⟨y,hy⟩
 cases x with
 |tmp t =>
  simp only[Am.homeTake]at e;split at e
  ·rename_i b ts hD;split at e
   case isFalse=>cases e
   cases e;simp only[Am.homePut0,hD]at i;cases i;obtain⟨k,n,o3⟩:=B;have hb:=(h3.own b.1 (by simp[ownBl])).2;exact h1.putBack h2 g R (by rw[pS];exact eY hD) (s' := .box b o.2) (I.val t _ hD) rfl rfl ⟨n,o3⟩ (.inl ⟨b,rfl,rfl,by simp[ownBl],hb⟩) (m n)
  ·rename_i h off hD;split at e
   case isFalse=>cases e
   split at e
   case h_2=>cases e
   rename_i b ts hb;split at e
   case isFalse=>cases e
   cases e;simp only[Am.homePut0,hD,hb]at i;cases i;obtain⟨k,n,o3⟩:=B;have Z0:=(h3.own b.1 (by simp[ownBl])).2;exact h1.putBack h2 g R (by rw[pS];exact eY hb) (s' := .box b o.2) (I.val h _ hb) rfl rfl ⟨n,o3⟩ (.inl ⟨b,rfl,rfl,by simp[ownBl],Z0⟩) (m n)
  ·rename_i h c st lo len hD;split at e
   case h_2=>cases e
   rename_i d z rows hn;split at e
   case isFalse=>cases e
   rename_i hc;obtain⟨rfl,rfl⟩:=hc;rw[We]at e;obtain⟨D3,Z4,e⟩:=e;cases e;simp only[Am.homePut0,hD,hn]at i;split at i
   case h_2=>cases i
   rename_i k0 d0 z0 J d' z' K Z1 l;cases Z1;split at i
   case isFalse=>cases i
   rename_i hz;subst hz;obtain⟨u,n1,n2,n3,n4,n5,n6⟩:=I.alNode hD hn;obtain⟨k,n⟩:=B;unfold VPart at k;rw[n,l]at k;simp only[WC,W2]at k;obtain⟨t',q,r⟩:=k;cases q;have U:Value.slice d'.addr K.length d'.cap = .slice d.addr rows.length d.cap:=by have q1:a.eval (.tmp t)=_:=r;have H:a.tmps.getD t undef=_:=n6;exact q1.symm.trans H
   rw[G6]at g R;obtain⟨D4,G,k1,k2,k3⟩:=I.nodeBack n1 n2 n3 n5 g R (by rw[l];simp) U;rw[k1]at i;cases i;exact⟨G,k2,k3⟩
  ·rename_i u hD;split at e
   case isFalse L =>
    split at e
    case h_2=>cases e
    rename_i h c hr;split at e
    case h_2=>cases e
    rename_i d z rows hc;rw[We]at e;obtain⟨D',e1,e3⟩:=e;cases e3;obtain⟨P',q1,H,q3,q4,q5,V⟩:=I.nodeTake hc e1;obtain⟨d0,z0,J,g1,g2⟩:=Inv.root hr (I.kind _ (Wd hD) u (by simp[aj])) (I.val t _ hD);rw[hc]at g1;cases g1;simp only[Am.homePut0,hD]at i;split at i
    case h_2=>cases i
    rename_i d1 z1 M l;rw[Wo L,hr]at i;obtain⟨k,n⟩:=B;unfold VPart at k;rw[n,l]at k;simp only[WC,W2]at k;obtain⟨t',q,r⟩:=k;cases q;rw[G6]at g R;have N:VT (.s .own d1 z1 M:DT) (.slice d.addr rows.length d.cap):=by have:a.eval (.tmp t)= .slice d.addr rows.length d.cap:=g2;rw[←this];exact r
    exact I.nodePut hc V g R (by rw[l];simp) N i
   rename_i W;cases e;simp only[Am.homePut0,hD]at i;split at i
   case h_2=>cases i
   rename_i d z rows l;rw[Wa W]at i;cases i;obtain⟨k,n⟩:=B;have p:=k.each;unfold VPart at k;rw[n,l]at k;simp only[WC,W2]at k;obtain⟨t',q,r⟩:=k;cases q;exact h1.putBack h2 g R (by rw[pS];exact eY hD) (s' := .one (.s .own d z rows)) r l.symm l.symm trivial (.inr (.inl ⟨_,rfl⟩)) p
  ·rename_i ts hD;split at e
   case isFalse L =>
    split at e
    case h_2=>cases e
    rename_i h c j X;obtain⟨u,_,S,hr⟩:=wB X;rw[Y0]at S;simp only[Am.homePut0,hD]at i;rw[Wo L,X]at i;simp only at i;have C:Am.aggNode D ts h c j=some (s,D1)→(o.2[j]?).bind (Am.nodePut D h c)=some D2→∃G,PendOf G (rd.flatMap (·.2))∧Inv cx D2 G a.tmps w':=fun e i=>by
     obtain⟨d,z,rows,g1,g2,g3,P',q1,H,q3,q4,q5,V⟩:=I.aggNode hD S hr e;subst g2;rw[g3]at g R;obtain⟨k,n⟩:=B;unfold VPart at k;rw[n]at k;simp only[WN]at k;obtain⟨cs,O,A⟩:=k;rw[Wb]at i;obtain⟨v',hv1,N⟩:=i;have Y:j<cs.toList.length:=by rw[←A.1];exact eY hv1
     obtain⟨Q,F,Z⟩:=q3.val D;have Z2:Q=cs:=by rw[O]at F;cases F;rfl
     subst Z2;have k1:=A.2 j v' _ hv1 (Wg Y);have k2:VT (.s .own d z rows:DT) Q.toList[j]:=Z.2 j _ _ (by rw[Wp (eY S)]) (Wg Y);have k3:Q.toList[j]= .slice d.addr rows.length d.cap:=k2;rw[k3]at k1;exact I.nodePut g1 V g R (Wd hv1) k1 N
    split at e
    case h_2 Z3 =>
     split at i
     ·rename_i b bs hb;exact absurd hb (Z3 b bs)
     ·exact C e i
    rename_i b bs hb;rw[hb]at i;simp only at i;split at e
    case isFalse hc =>rw[Wo hc]at i;exact C e i
    rename_i hc;rw[Wa hc]at i;cases e;cases i;obtain⟨P',q1,H,q3,q4,⟨q5,V,q7⟩,q8⟩:=I.boxAgg hD hb hc.1 hc.2.1;obtain⟨k,n⟩:=B;unfold VPart at k;rw[n]at k;simp only[WN]at k;obtain⟨cs,O,A⟩:=k;exact I.boxBack (D1:=bc h D) hb hc.2.1 q1 H q5 V q7 g R A (q8 cs O)
   rename_i hl;split at e
   case isFalse=>cases e
   cases e;simp only[Am.homePut0,hD]at i;rw[Wa hl]at i;cases i;obtain⟨k,n⟩:=B;have p:=k.each;unfold VPart at k;rw[n]at k;exact h1.putBack h2 g R (by rw[pS];exact eY hD) (s' := .agg o.2) k rfl rfl trivial (.inr (.inr ⟨_,rfl⟩)) p
  ·cases e
 |_=>cases e
section
variable  {δ β : Type}
def DZ (o:Bool×List (T δ)):Bool:=match o with|(false,[.any])=>true|_=>false
def homePut (D D1:St δ β)(x:Operand)(o:Bool×List (T δ)):Option (St δ β):=if DZ o=true then some D1 else homePut0 D D1 x o
end
theorem So (o:Bool×List DT):DZ (o.1,erL o.2)=DZ o:=by
 obtain⟨g,ts⟩:=o;cases g with
 |true=>rfl
 |false =>
  match ts with
  |[]=>rfl
  |[t]=>cases t<;>first|rfl|(simp only[erL,Wv,WM,aC];rfl)
  |t::u::ts=>cases t<;>first|rfl|(simp only[erL,Wv,aC];rfl)
theorem OE (D D1:DSt)(x:Operand)(o:Bool×List DT):homePut (erD D) (erD D1) x (o.1,erL o.2)=(homePut D D1 x o).map erD:=by unfold homePut;rw[So,L3];split<;>rfl
theorem Inv.dropL {cx:Cx}{D:DSt}{P Q:List (DT×Value)}{tm:Array Value}{w:World}(I:Inv cx D (P++Q) tm w):Inv cx D Q tm w where
 size:=I.size
 val:=I.val
 mem:=I.mem
 kind:=I.kind
 pend:=fun p a=>I.pend p (by simp[a])
 once:=fun b=>by have:=I.once b;rw[iU]at this;omega
 bnd:=fun b hb=>I.bnd b (by rw[iU];omega)
 frame:=I.frame
theorem Inv.homePut {cx:Cx}{D:DSt}{a:Act}{w w':World}(I:Inv cx D [] a.tmps w){x:Operand}{s:DSl}{D1 j:DSt}(e:Am.homeTake D x=some (s,D1))(g:GrewH (ownBl s) w w'){o:Bool×List DT}{rd:em}{v:Value}
  (R:RetOk w (ownBl s) w' (cT s) [o] rd v) (l:Dt w' s (a.eval x) o) (d:Am.homePut D D1 x o=some j):∃f,PendOf f (rd.flatMap (·.2))∧Inv cx j f a.tmps w':=by
 unfold Am.homePut at d;split at d
 ·rename_i h;cases d;obtain⟨P,m,n,p,q,r⟩:=I.homeTake e;have b:∀u∈o.2,∃y,VT u y:=by
   unfold DZ at h;split at h
   ·intro u k;rw[Wk]at k;subst k;exact⟨.bool true,rfl⟩
   ·cases h
  obtain⟨t,i⟩:=fL b;obtain⟨f,c⟩:=fL R.each;exact⟨f,c,(m.back n g R i c).1.dropL⟩
 ·exact I.homePut0 e g R l d
abbrev US:=St Unit Unit
def kB (P : Program) (fns : FuncId → Option Func) : Prop := ∀ f fn, fns f = some fn → P.funcs[f]? = some fn ∧ (fn.name == "runtime.NumGoroutine") = false ∧ fn.body.isNone = false
def callTo (D:US)(o:Oper):Option (FuncId×List Operand×List (Unit×List (T Unit))):=
 match o.op with
 | .call c=>match c.callee with| .value x=>(match opd mkU.nil D x with|some (.fni f caps)=>some (f,c.args.toList,caps)|_=>none)|_=>none
 |_=>none
theorem Inv.callTo {cx:Cx}{D:DSt}{a:Act}{w:World}(I:Inv cx D [] a.tmps w){o:Oper}{f:FuncId}{xs:List Operand}{caps:List (Unit×List (T Unit))}(h:callTo (erD D) o=some (f,xs,caps)):
  ∃c x d,o.op = .call c∧c.callee = .value x∧xs=c.args.toList∧caps=d.map (fun p=>((),erL p.2))∧AOk w [] (.fni f d) (a.eval x) ∧
   a.eval x = .func (.func f) #[] (d.map fun b=>Value.pointer (some ⟨b.1.1,b.1.2,none⟩)).toArray:=by
 unfold Am.callTo at h;split at h
 case h_2=>cases h
 rename_i c j;split at h
 case h_2=>cases h
 rename_i x e;split at h
 case h_2=>cases h
 rename_i f' l n;cases h;rw[cE,We]at n;obtain⟨s,q,g⟩:=n;have hv:=(I.opd q).val;cases s with
 |fni i d =>
  simp only[Sl.er,Sl.fni.injEq]at g;obtain⟨rfl,rfl⟩:=g;refine⟨c,x,d,j,e,rfl,rfl,?_,hv⟩;have:Am.argOf mkD D x=some (Sl.fni i d):=by have m:Am.opd mkD.nil D x=some (Sl.fni i d):=q;simp only[Am.argOf,m]
  exact(I.argOf (Out.nil cx D) this).1
 |one u=>cases g
 |im k b ts off=>cases g
 |_=>cases g
theorem ArgsOk.ims {w:World}{X:List Nat}{ad:List DSl}{c:List Value}(h:ArgsOk w X ad c){f:FuncId}{caps:List ((Nat×Nat)×List DT)}{y:Value}(g:AOk w X (.fni f caps) y):
  ArgsOk w X (ad++Am.ims caps) (c++caps.map fun b=>Value.pointer (some ⟨b.1.1,b.1.2,none⟩)):=by
 obtain⟨d,e,j⟩:=h;refine⟨by simp[d,Am.ims],fun i a v hi hv=>?_,fun b=>by rw[Xt,Q0,WG];exact j b⟩;rcases Wl i ad.length with q|q
 ·rw[W1 q]at hi;rw[W1 (by omega)]at hv;exact e i a v hi hv
 ·rw[WZ q]at hi;rw[WZ (by omega), ←d]at hv;exact g.ims _ a v hi hv
theorem Ke {caps:List ((Nat×Nat)×List DT)}:∀a∈Am.ims caps,a.isHome=false:=by intro a b;obtain⟨p,_,rfl⟩:=Wx.1 b;rfl
def addrSl (D:US)(dst:Option Nat)(offs:List Nat)(xs:List Operand)(caps:List (Unit×List (T Unit))):Option US :=
 match xs,caps with
 |[x],[]=>(lQ D x).bind fun h=>eU D dst (.clo (.arr offs) (offs.map fun _=>h))
 |_,_=>none
theorem Su (D:DSt)(dst:Option Nat)(s:DSl):eU (erD D) dst s.er=(eU D dst s).map erD:=pr D dst s
theorem Ho {α β:Type}(x:α):∀(l:List β),((l.map fun _=>x).zip l)=l.map fun o=>(x,o)
 |[]=>rfl
 |o::l=>by simp[Ho x l]
theorem Inv.addrSl {P:Program}{tab:Tab}(ok:bz P tab){cx:Cx}{D:DSt}{a:Act}{w:World}(I:Inv cx D [] a.tmps w){f:FuncId}{offs:List Nat}(hf:tab.addr.lookup f=some offs){dst:Option Nat}{xs:List Operand}
  {U:US} (e:addrSl (erD D) dst offs xs []=some U):Calls P f (xs.map a.eval).toArray w fun e w'=>∃v,e = .returned v∧∃D',erD D'=U∧Inv cx D' [] (a.put dst v).tmps w':=by
 unfold Am.addrSl at e;split at e
 case h_2=>cases e
 rename_i x _;rw[xU,Wb]at e;obtain⟨h,c,n⟩:=e;have j:∃(b:Nat×Nat) (ts:List DT),D[h]?=some (.box b ts)∧a.eval x = .pointer (some ⟨b.1,b.2,none⟩):=by
  unfold lQ at c;split at c
  ·rename_i t;split at c
   ·rename_i b ts hb;cases c;exact⟨b,ts,hb,I.val _ _ hb⟩
   ·rename_i q hb;cases c;obtain⟨b,ts,r,s⟩:=I.val _ _ hb;exact⟨b,ts,r,s⟩
   ·cases c
  ·cases c
 obtain⟨b,ts,y,z⟩:=j;have A:=ok.addr _ (iK hf) b w;simp only[Wv,WM,z];refine A.mono ?_;rintro e w' ⟨rfl,g⟩;refine⟨_,rfl,?_⟩;have m:Inv cx D [] a.tmps w':=I.world (P':=[]) (Out.nil cx D) (g.x []) (fun p B=>by cases B) (fun b hb=>by rw[cO]at hb;cases hb);have C:Tells cx D w' (.clo (.arr offs) (offs.map fun _=>h)) (.agg (offs.map fun o=>Value.pointer (some ⟨b.1,b.2+o,none⟩)).toArray):=by
  refine⟨⟨offs.map fun _=>b,by simp,fun i q F hi hb=>?_,?_⟩,⟨fun u k=>by simp[aj]at k,fun u k=>by simp[rootsO]at k,trivial⟩,fun u k=>by simp[aj]at k,rfl⟩
  ·rw[Wr,We]at hi hb;obtain⟨_,_,rfl⟩:=hi;obtain⟨_,_,rfl⟩:=hb;exact⟨ts,y⟩
  ·simp only[Jm,Ho,WW];rfl
 have l:eU (erD D) dst (Sl.er (.clo (.arr offs) (offs.map fun _=>h)))=some U:=n;rw[Su,We]at l;obtain⟨D',d,rfl⟩:=l;refine⟨D',rfl,?_⟩;unfold eU at d;split at d
 ·cases d;exact m
 ·split at d
  ·cases d;exact m.putA ‹_› C
  ·cases d
def stepU (tab:Tab)(fns:FuncId→Option Func)(C:Sem1)(D:US)(o:Oper)(tk:Bool):Option US :=
 match callTo D o with
 |some (f,xs,caps)=>
  if(fns f).isSome then
   match tab.addr.lookup f with
   |some offs=>addrSl D o.dst offs xs caps
   |none =>
   match tab.io.lookup f with
   |none=>(argsW mkU tab f D xs).bind fun as=>(C f (as++ims caps)).bind fun rs=>putRet mkU D o.dst rs
   |some i =>
    match caps,xs[i]? with
    |[],some x=>(homeTake D x).bind fun r=>(argsIo mkU r.2 r.1 i xs).bind fun as=>(C f as).bind fun rs=>match rs with|q::rs=>(homePut D r.2 x q).bind fun a=>putRet mkU a o.dst rs|[]=>none
    |_,_=>none
  else none
 |none=>dx mkU frU tab D o tk
theorem Hf {P:Program}{o:Oper}{c:Call}{x:Operand}{f:FuncId}{fn:Func}{a:Act}{w:World}{d:List Value}(e:o.op = .call c)(b:c.callee = .value x)(g:a.eval x = .func (.func f) #[] d.toArray)
  (l : P.funcs[f]? = some fn) (m : (fn.name == "runtime.NumGoroutine") = false) (k : fn.body.isNone = false) : (execOp a.eval o).run P w = .ok (.enter f (c.args.toList.map a.eval ++ d).toArray) w := by
 have n:(c.args.toList.map a.eval++d).toArray=c.args.map a.eval++d.toArray:=by rw[←XH];simp
 rw[n];simp only[execOp,e,resolve,b,g];have i : ¬ fn.name = "runtime.NumGoroutine" := by simpa using m
 have j:¬fn.body=none:=by intro h;rw[h]at k;cases k
 simp[Deferred.ofValue,invoke,callFunc,l,i,j]
theorem Fj {rd:em}:erR ([]++rd)=erR rd:=rfl
theorem Inv.stepU {P:Program}{tab:Tab}(ok:bz P tab){fns:FuncId→Option Func}(hf:kB P fns){B:Base}{C:Sem1}{cx:Cx}(A:jf P B C cx){D:DSt}{a:Act}{w:World}(I:Inv cx D [] a.tmps w)
  {o:Oper} {tk:Bool} {U:US} (e:stepU tab fns C (erD D) o tk=some U) {K:Act→World→Prop} {Q:Exit→Act→World→Prop}
  (t:∀D' F w',erD D'=U→(∃y,F=a.put o.dst y)→Inv cx D' [] F.tmps w'→K F w'):o.wp P a w K Q:=by
 unfold Am.stepU at e;split at e
 ·rename_i f xs caps hc;split at e
  case isFalse=>cases e
  rename_i G;obtain⟨fn,H⟩:=XY.1 G;obtain⟨p1,p2,p3⟩:=hf f fn H;obtain⟨c,x,b,J,u,rfl,rfl,L,M⟩:=I.callTo hc;have N:=Hf (w:=w) J u M p1 p2 p3;unfold Oper.wp;rw[N];split at e
  ·rename_i offs p;have d:b=[]:=by
    unfold Am.addrSl at e;split at e
    ·rename_i O;simpa using O
    ·cases e
   subst d;have k:=I.addrSl ok p e;simp only[WM,WG];refine k.mono ?_;rintro e0 w' ⟨v,rfl,D',l,r⟩;exact t D' _ _ l ⟨_,rfl⟩ r
  split at e
  ·rw[Wb]at e;obtain⟨as,k,e⟩:=e;rw[Wb]at e;obtain⟨rs,l,r⟩:=e;rw[Jt]at k;obtain⟨ad,m,rfl⟩:=We.1 k;obtain⟨S,hN⟩:=I.argsW (Out.nil cx D) m;have V:=S.ims L;have W:∀s∈ad++ims b,s.isHome=false:=fun s hs=>(WF.1 hs).elim (hN s) (Ke s)
   have j:=A.1 f _ rs l w [] (ad++ims b) _ (A.2.at I (Out.nil cx D)) (by rw[W8,QD]) V;refine j.mono ?_;rintro e w' ⟨v,od,rd,rfl,g,X,Y,R⟩;have:=OutsOk.none W Y;subst this;subst X;rw[Fj,GR]at r;obtain⟨D',Z,rfl⟩:=We.1 r;exact t D' _ _ rfl ⟨_,rfl⟩ (I.putRet g.grew R Z)
  ·rename_i i Z5;split at e
   case h_2=>cases e
   rename_i x0 d Z0;have Z1:b=[]:=by simpa using d
   subst Z1;rw[Wb]at e;obtain⟨⟨s,D1⟩,k,e⟩:=e;rw[L4]at k;obtain⟨⟨sd,Z6⟩,m,Z2⟩:=We.1 k;cases Z2;rw[Wb]at e;obtain⟨as,l,e⟩:=e;rw[Wb]at e;obtain⟨rs,r,e⟩:=e;simp only at l;rw[GP]at l;obtain⟨ad,Z3,rfl⟩:=We.1 l;obtain⟨Pd,k1,k2,k3,k4,k5⟩:=I.homeTake m;obtain⟨S,hB,n⟩:=k1.argsIo k2 k3 k4 Z0 Z3;have j:=A.1 f _ rs r w (ownBl sd) ad _ (A.2.at k1 k2) rfl S;simp only[WM,WG];refine j.mono ?_;rintro e0 w' ⟨v,od,rd,rfl,g,X,Y,R⟩;obtain⟨q,rfl,hq⟩:=OutsOk.one k5 n Y;subst X;rw[OneHome.box n]at R;simp only[XF,erR,Wv]at e;rw[Wb]at e;obtain⟨U2,e1,e2⟩:=e;rw[OE]at e1;obtain⟨D2,Z4,rfl⟩:=We.1 e1;obtain⟨Pr,n1,n2⟩:=I.homePut m g R hq Z4;have z:Am.putRet mkU (erD D2) o.dst (erR rd)=some U:=e2;rw[GR]at z;obtain⟨D',e3,rfl⟩:=We.1 z;exact t D' _ _ rfl ⟨_,rfl⟩ (n2.putRetP R n1 e3)
 ·rw[Sv w]at e;obtain⟨D',e',rfl⟩:=We.1 e;obtain⟨nx,w',k,l⟩:=E0 ok I e';unfold Oper.wp;rw[k];cases l with
  |value y h=>exact t D' _ _ rfl ⟨_,rfl⟩ h
  |skip hd h =>show K (a.put o.dst undef) w';refine t D' _ _ rfl ⟨_,rfl⟩ ?_;rw[hd];exact h
def yieldAt {δ β:Type}(D:St δ β)(t:Nat):Option (Option Bool):=
 match D[t]? with
 |some (.one (.v (.bool b)))=>some (some b)
 |some (.tup [])=>some none
 |_=>none
theorem xV (D:DSt)(t:Nat):yieldAt (erD D) t=yieldAt D t:=by
 unfold yieldAt;rw[cf];cases D[t]? with
 |none=>rfl
 |some s =>
  cases s with
  |one u =>
   cases u with
   |s k d z r=>simp[Sl.er,aC]
   |v x=>cases x<;>rfl
   |any=>rfl
  |tup rs=>cases rs<;>rfl
  |_=>rfl
theorem Inv.yieldAt {cx:Cx}{D:DSt}{P:List (DT×Value)}{tm:Array Value}{w:World}(I:Inv cx D P tm w){t:Nat}{y:Option Bool}(e:yieldAt D t=some y):
  (match tm[t]? with|some (.bool b)=>some b|_=>none)=y:=by
 unfold Am.yieldAt at e;have a:∀s,D[t]?=some s→VS D s (tm.getD t undef)∧tm[t]?=some (tm.getD t undef):=by
  intro s h;have c:t<tm.size:=by
   rw[←I.size];rcases Wl t D.length with g|g
   ·exact g
   ·rw[Wh g]at h;cases h
  refine⟨I.val t _ h,?_⟩;rw[WY,WR c];rfl
 split at e
 ·rename_i i h;cases e;obtain⟨d,f⟩:=a _ h;rw[f,show tm.getD t undef = .bool i from d.1]
 ·rename_i h;cases e;obtain⟨⟨j,d,_⟩,f⟩:=a _ h;rw[f,d]
 ·cases e
theorem Inv.putUndef {cx:Cx}{D:DSt}{a:Act}{w:World}(I:Inv cx D [] a.tmps w){t:Nat}(c:t<D.length):Inv cx (Am.putA D t (.tup [])) [] (a.put (some t) undef).tmps w :=
 I.putA c ⟨⟨#[],rfl,rfl,fun i r v h=>by simp at h⟩,⟨fun u b=>by simp[aj]at b,fun u b=>by simp[rootsO]at b,trivial⟩,fun u b=>by simp[aj]at b,rfl⟩
def runOps (tab:Tab)(fns:FuncId→Option Func)(C:Sem1)(tk:Nat→Bool)(ops:Array Oper):List Oper→Nat→US→Option US
 |[],_,D=>some D
 |o::r,i,D =>
  match o.guard with
  |none=>(stepU tab fns C D o (tk i)).bind (runOps tab fns C tk ops r (i+1))
  |some (j,a)=>
   match((ops[j]?).bind (·.dst)).bind (yieldAt D)with
   |some b=>if b=some a then(stepU tab fns C D o (tk i)).bind (runOps tab fns C tk ops r (i+1))else
    (match o.dst with|none=>some D|some t=>if t<D.length then some (putA D t (.tup []))else none).bind (runOps tab fns C tk ops r (i+1))
   |none=>none
theorem Inv.runOps2 {P:Program}{tab:Tab}(ok:bz P tab){fns:FuncId→Option Func}(hf:kB P fns){B:Base}{C:Sem1}{cx:Cx}(m:jf P B C cx){tk:Nat→Bool}{ops:Array Oper}{Q:Exit→Act→World→Prop}{U:US}
  {T:Act→Prop} {l2:List Oper} (n:∀D' p w',erD D'=U→T p→Inv cx D' [] p.tmps w'→wpList P ops Q l2 p w'):∀(l:List Oper)(i:Nat){D:DSt}{a:Act}{w:World},(∀o∈l,∀a y,T a→T (a.put o.dst y))→Inv cx D [] a.tmps w→T a →
   runOps tab fns C tk ops l i (erD D)=some U→wpList P ops Q (l++l2) a w
 |[],i,D,a,w,_,I,hd,e=>by cases e;exact n D a w rfl hd I
 |o::l,i,D,a,w,u,I,hd,e=>by
  have f:∀o∈l,∀a y,T a→T (a.put o.dst y):=fun F h=>u F (by simp[h])
  have x:Region.wanted o (yielded ops a.tmps)=true→(Am.stepU tab fns C (erD D) o (tk i)).bind (Am.runOps tab fns C tk ops l (i+1))=some U→wpList P ops Q (o::(l++l2)) a w:=by intro G e;rw[Wb]at e;obtain⟨H,d,q⟩:=e;unfold wpList;rw[Wa G];refine .inl (I.stepU ok hf m d fun D' p w' v r J=>?_);subst v;obtain⟨y,rfl⟩:=r;exact Inv.runOps2 ok hf m n l (i+1) f J (u o (by simp) a y hd) q
  show wpList P ops Q (o::(l++l2)) a w;unfold Am.runOps at e;split at e
  ·rename_i s;exact x (by simp[Region.wanted,s]) e
  ·rename_i j z s;split at e
   case h_2=>cases e
   rename_i b hb;have A:yielded ops a.tmps j=b:=by rw[Wb]at hb;obtain⟨t,v,r⟩:=hb;rw[xV]at r;have:=I.yieldAt r;unfold yielded;rw[v];exact this
   split at e
   ·rename_i g;exact x (by simp[Region.wanted,s,A,g]) e
   ·rename_i g;unfold wpList;rw[Wo (by simp[Region.wanted,s,A,g])];rw[Wb]at e;obtain⟨H,d,q⟩:=e;split at d
    ·rename_i c;cases d;rw[c];exact Inv.runOps2 ok hf m n l (i+1) f I hd q
    ·rename_i t c;rw[fC]at d;split at d
     case isFalse=>cases d
     rename_i K;cases d;have:=I.putUndef K;have k:=u o (by simp) a undef hd;rw[c]at k ⊢;exact Inv.runOps2 (tk:=tk) ok hf m n l (i+1) f this k (by rw[Bx];exact q)
theorem Inv.runOps {P:Program}{tab:Tab}(ok:bz P tab){fns:FuncId→Option Func}(hf:kB P fns){B:Base}{C:Sem1}{cx:Cx}(c:jf P B C cx){tk:Nat→Bool}{ops:Array Oper}{Q:Exit→Act→World→Prop}{U:US}
  {T:Act→Prop} (d:∀D' b w',erD D'=U→T b→Inv cx D' [] b.tmps w'→Q .normal b w') (l:List Oper) (i:Nat) {D:DSt} {a:Act} {w:World} (f:∀o∈l,∀a y,T a→T (a.put o.dst y)) (I:Inv cx D [] a.tmps w) (hd:T a)
  (e:Am.runOps tab fns C tk ops l i (erD D)=some U):wpList P ops Q l a w:=by
 have:=Inv.runOps2 (l2:=[]) (Q:=Q) ok hf c d l i f I hd e
 rwa [WG]at this
section
variable  {δ β : Type}
def kill1 (D:St δ β)(t:Nat):St δ β:=if t<D.length then ba D (some t) .any else D
def killAll (l:List Nat)(D:St δ β):St δ β:=l.foldl kill1 D
theorem qm (D:St δ β)(t:Nat):(kill1 D t).length=D.length:=by
 unfold kill1;split
 ·simp[ba,bc,St.dead]
 ·rfl
theorem px (D:St δ β)(t u:Nat)(h:t<D.length):(kill1 D t)[u]?=if u=t then some .any else(D[u]?).map (Sl.clean t):=by
 unfold kill1;rw[Wa h];simp only[ba,bc];by_cases e:u=t
 ·subst e;rw[Wa rfl,Wp (by simp[St.dead];exact h)];rfl
 ·rw[Wo e,Ws (fun q=>e q.symm),Ws (fun q=>e q.symm)];simp only[St.dead,Wr,Xc];rfl
theorem xc (l:List Nat):∀(D:St δ β),(killAll l D).length=D.length:=by
 induction l with
 |nil=>intro D;rfl
 |cons a l b=>intro D;simp only[killAll,XD];exact(b _).trans (qm D a)
theorem y3:∀(l:List Nat){D D':St δ β},D.length=D'.length→(∀u,u∉l→D[u]?=D'[u]?)→killAll l D=killAll l D'
 |[],D,D',b,h=>XC fun u=>h u (by simp)
 |a::l,D,D',b,h=>by
  simp only[killAll,XD];refine y3 l (by rw[qm,qm,b]) fun u f=>?_
  by_cases c:a<D.length
  ·rw[px D a u c,px D' a u (b ▸ c)];by_cases e:u=a
   ·rw[Wa e,Wa e]
   ·rw[Wo e,Wo e,h u (by simp[e,f])]
  ·have d:¬a<D'.length:=b ▸ c;unfold kill1;rw[Wo c,Wo d];by_cases e:u=a
   ·subst e;rw[Wh (by omega),Wh (by omega)]
   ·exact h u (by simp[e,f])
end
theorem wg {δ β:Type}{t:Nat}:∀(l:List Nat){D:St δ β},t<D.length→t∈l∨D[t]?=some .any→(killAll l D)[t]?=some .any
 |[],D,_,h=>by
  rcases h with h|h
  ·cases h
  ·exact h
 |a::l,D,c,h=>by
  simp only[killAll,XD];refine wg l (by rw[qm];exact c) ?_;by_cases b:a<D.length
  ·rw[px D a t b];by_cases e:t=a
   ·right;rw[Wa e]
   ·rw[Wo e];rcases h with h|h
    ·left;simpa[e]using h
    ·right;rw[h];rfl
  ·rcases h with h|h
   ·left;have:t≠a:=by omega
    simpa[this]using h
   ·right;unfold kill1;rw[Wo b];exact h
theorem Sp (D:DSt)(t:Nat):erD (kill1 D t)=kill1 (erD D) t:=by
 unfold kill1;rw[fC];split
 ·exact cv D (some t) .any
 ·rfl
theorem lj (l:List Nat):∀(D:DSt),erD (killAll l D)=killAll l (erD D):=by
 induction l with
 |nil=>intro D;rfl
 |cons a l b=>intro D;simp only[killAll,XD];rw[←Sp];exact b _
theorem Inv.kill1 {cx:Cx}{D:DSt}{tm:Array Value}{w:World}(I:Inv cx D [] tm w)(t:Nat):Inv cx (kill1 D t) [] tm w:=by
 unfold Am.kill1;split
 ·exact I.lose ‹_›
 ·exact I
theorem Inv.killAll {cx:Cx}{tm:Array Value}{w:World}(l:List Nat):∀{D:DSt},Inv cx D [] tm w→Inv cx (killAll l D) [] tm w:=by
 induction l with
 |nil=>intro D I;exact I
 |cons a l b=>intro D I;simp only[Am.killAll,XD];exact b (I.kill1 a)
theorem M0 {p:Nat→Nat→Bool}{t u:DT}(h:t.dead p=u)(a:u.isOwn=true):t=u:=by
 cases t with
 |v x=>exact h
 |any=>exact h
 |s k d z r =>
  cases k with
  |own=>exact h
  |far=>exact h
  |lent b c e =>simp only[T.dead]at h;split at h<;>(subst h;cases a)
theorem ut {D:DSt}{t h c:Nat}{u:DT}(e:av (kill1 D t) h c=some u)(b:u.isOwn=true):av D h c=some u:=by
 by_cases a:t<D.length
 ·unfold av at e;rw[px D t h a]at e;by_cases hh:h=t
  ·rw[Wa hh]at e;simp[aZ]at e
  ·rw[Wo hh]at e;have:av D h c=(D[h]?.bind aZ).bind (·[c]?):=rfl;rw[this];cases hd:D[h]? with
   |none=>rw[hd]at e;simp at e
   |some s =>
    rw[hd]at e;simp only[Wc,V9,Sl.clean,w8,w7]at e ⊢;cases hc:aZ s with
    |none=>rw[hc]at e;simp at e
    |some cs =>rw[hc]at e;simp only[Wc,V9,Wr]at e ⊢;rw[We]at e;obtain⟨g,d,f⟩:=e;rw[d,M0 f b]
 ·unfold kill1 at e;rw[Wo a]at e;exact e
theorem GK {D:DSt}{t h:Nat}{b:Nat×Nat}{ts:List DT}(e:(kill1 D t)[h]?=some (.box b ts)):∃c,D[h]?=some (.box b c):=by
 by_cases d:t<D.length
 ·rw[px D t h d]at e;by_cases hh:h=t
  ·rw[Wa hh]at e;cases e
  ·rw[Wo hh,We]at e;obtain⟨s,f,a⟩:=e;rw[f];cases s with
   |box g ts'=>simp only[Sl.clean,Sl.dead,Sl.gone]at a;cases a;exact⟨_,rfl⟩
   |al=>simp only[Sl.clean,Sl.dead]at a;split at a<;>cases a
   |pe=>simp only[Sl.clean,Sl.dead]at a;split at a<;>cases a
   |pb=>simp only[Sl.clean,Sl.dead,Sl.gone]at a;split at a<;>cases a
   |clo=>simp only[Sl.clean,Sl.dead,Sl.gone]at a;split at a<;>cases a
   |im k b ts off =>
    cases k with
    |lent=>simp only[Sl.clean,Sl.dead]at a;split at a<;>cases a
    |_=>cases a
   |_=>cases a
 ·unfold kill1 at e;rw[Wo d]at e;exact⟨ts,e⟩
theorem y9 {D:DSt}{t h c:Nat}{st:List (Nat×Nat)}{d:Dec}{z n:Nat}(e:e8 (kill1 D t) h c st d z n):e8 D h c st d z n:=by obtain⟨u,b,a,f⟩:=e;exact⟨u,ut b a,a,f⟩
theorem R4 {D:DSt}{t:Nat}{s:DSl}{y:Value}(h:VS (kill1 D t) s y):VS D s y:=by
 cases s with
 |al j c st lo len=>obtain⟨d,z,n,a,e,g⟩:=h;exact⟨d,z,n,a,y9 e,g⟩
 |pe j c st i off=>obtain⟨d,z,n,e,g⟩:=h;exact⟨d,z,n,y9 e,g⟩
 |pb j off=>obtain⟨b,ts,e,g⟩:=h;obtain⟨k,l⟩:=GK e;exact⟨b,k,l,g⟩
 |clo f hs =>obtain⟨m,e,g,l⟩:=h;refine⟨m,e,fun i j b hi hb=>?_,l⟩;obtain⟨ts,o⟩:=g i j b hi hb;exact GK o
 |_=>exact h
theorem LN {cx:Cx}{D:DSt}{t:Nat}{u:DT}(h:bK cx (kill1 D t) u):bK cx D u:=by
 cases u with
 |v x=>trivial
 |any=>trivial
 |s k d z r =>
  cases k with
  |own=>trivial
  |far=>exact h
  |lent e f g=>obtain⟨v,b,a,c⟩:=h;exact⟨v,ut b a,a,c⟩
theorem LM {cx:Cx}{D:DSt}{t:Nat}{s:DSl}(h:eW cx (kill1 D t) s):eW cx D s:=by
 cases s with
 |im k b ts off =>
  cases k with
  |own=>exact h
  |far=>exact h
  |lent g i j=>obtain⟨v,c,a,d⟩:=h;exact⟨v,ut c a,a,d⟩
 |fni f caps=>exact h
 |_=>exact fun u e=>LN (h u e)
theorem Tells.kill {cx:Cx}{w:World}{s:DSl}{y:Value}(l:List Nat):∀{D:DSt},Tells cx (killAll l D) w s y→Tells cx D w s y:=by
 induction l with
 |nil=>intro D h;exact h
 |cons a l c =>intro D h;simp only[Am.killAll,XD]at h;have b:=c h;exact⟨R4 b.val,b.mem,LM b.kind,b.noown⟩
theorem vW {t:Nat}{s:DSl}(h:¬cQ t s):s.clean t=s:=by
 have o:∀u:DT,¬(∃c g d z r,u = .s (.lent t c g) d z r)→u.dead (atH t)=u:=by
  intro u j;cases u with
  |v x=>rfl
  |any=>rfl
  |s k d z r =>
   cases k with
   |own=>rfl
   |far=>rfl
   |lent a l g =>
    have m:atH t a l=false:=by
     cases e:atH t a l with
     |false=>rfl
     |true =>
      have e:a=t:=by simpa[atH]using e
      subst e;exact absurd ⟨l,g,d,z,r,rfl⟩ j
    simp[T.dead,m]
 have n:∀us:List DT,¬(∃u∈us,∃c g d z r,u = .s (.lent t c g) d z r)→us.map (T.dead (atH t))=us:=by
  intro us j
  conv=>rhs;rw[←Yh us]
  exact WT fun u p=>o u fun⟨c,g,d,z,r,e⟩=>j ⟨u,p,c,g,d,z,r,e⟩
 unfold Sl.clean;cases s with
 |any=>rfl
 |one u=>simp only[Sl.dead,Sl.gone];rw[o u h]
 |agg ts=>simp only[Sl.dead,Sl.gone];rw[n ts h]
 |box b ts=>simp only[Sl.dead,Sl.gone];rw[n ts h]
 |al a c st lo len =>have:¬a=t:=h;simp[Sl.dead,Sl.gone,qH,this]
 |pe a c st i off =>have:¬a=t:=h;simp[Sl.dead,Sl.gone,qH,this]
 |pb a off =>have:¬a=t:=h;simp[Sl.dead,Sl.gone,this]
 |im k b ts off =>
  cases k with
  |own=>rfl
  |far=>rfl
  |lent a l g =>have:¬a=t:=h;simp[Sl.dead,Sl.gone,atH,this]
 |fni f caps=>rfl
 |clo f hs =>have:¬t∈hs:=h;simp[Sl.dead,Sl.gone,this]
 |tup rs =>
  simp only[Sl.dead,Sl.gone];congr 1
  conv=>rhs;rw[←Yh rs]
  refine WT fun r q=>?_
  rw[n r.2 fun⟨u,j,c,g,d,z,w,e⟩=>h ⟨r,q,u,j,c,g,d,z,w,e⟩];rfl
theorem ou {D:DSt}{t:Nat}{s:DSl}(b:∀s'∈D,¬cQ t s')(hs:¬cQ t s):ba D (some t) s=D.set t s:=by
 simp only[ba];rw[vW hs];have:(St.dead (atH t) (qH t) D).map (Sl.gone t)=D:=by
  simp only[St.dead,WW]
  conv=>rhs;rw[←Yh D]
  exact WT fun s' a=>vW (b s' a)
 unfold bc;rw[this,List.set_set]
def b8 (ops:Array Oper)(j:Nat):List Nat :=
 match ops[j]? with
 |some o=>(o.after.toList.filter (Region.binds .any)).map (·.on)
 |none=>[]
def dp (ops:Array Oper)(m:Nat):List Nat:=(List.range m).filterMap fun i=>(ops[i]?).bind (·.dst)
section
variable  {P : Program}{tab : Tab}
theorem H8 (ok:bz P tab){cx:Cx}{D D':DSt}{a:Act}{w:World}(I:Inv cx D [] a.tmps w){dst:Option Nat}{t:Nat}{l c:Operand}
  (e:fd mkD (frD w) tab D dst t l c=some D'):∃y w' d V z rows,dst=some d∧D'=ba D (some d) (.one (.s .own V z rows))∧(Instr.makeSlice t (a.eval l) (a.eval c)).run P w = .ok y w'∧Grew w w'∧Qg w w' (.s .own V z rows) y:=by
 unfold fd at e;split at e
 case h_2=>cases e
 rename_i sz W ze o d n k F X H;split at e
 case h_2=>cases e
 rename_i m J;split at e
 case isFalse=>cases e
 rename_i hc;split at e
 case isFalse=>cases e
 rename_i Y;cases e;obtain⟨hd,Z,K⟩:=hc;obtain⟨n1,n2,n3,n4⟩:=Y;have hu:=gk (Tab.ok ok F) rfl;obtain⟨i,d',z,g1,Z0,L,g4,g5,M,g7,g3⟩:=gK (Tab.ok ok J);have G:=lr (P:=P) (t:=o) (w:=w) (cx:=cx) (D:=D) (ys:=z.cells.toList) g3;rw[←M]at G;have B:z.cells.size=m.size:=by rw[←K,M];simp[ek]
 have A:∀t∈m.zero.map (T.inj nilD),t.fine=true:=by intro t C;rw[M]at C;simp only[Wx,ek,Xm]at C;obtain⟨u,⟨j,hj,rfl⟩,rfl⟩:=C;unfold zT;split<;>rfl
 obtain⟨kl,N⟩:=I.opInt X;obtain⟨kc,O⟩:=I.opInt H;have f:=run_make w t o i z hu g1 L kl kc n k n1 n2 (by rw[g5];exact n3) (by omega);rw[←N, ←O]at f;have R:=RowsAre.init G.v (by omega) k.toNat;have Q:(madeCells z.cells (k.toNat*i.size))=((Array.range (k.toNat*z.cells.size)).map (fun i=>z.cells[i % z.cells.size]!)):=by unfold madeCells;rw[g4,B]
 rw[Q]at f;rw[B]at R f;generalize p:(Array.range (k.toNat*m.size)).map (fun i=>z.cells[i % m.size]!)=cells at R f;have g:=Grew.alloc w (.cells cells o);have q:(w.alloc (.cells cells o)).heap[w.heap.size]?=some (.cells cells o (0,0)):=by show(w.heap.push _)[w.heap.size]?=_;simp
 have Z1:n.toNat≤k.toNat:=by omega
 have r:∀(i:Nat)(row:List DT),(List.replicate n.toNat (m.zero.map (T.inj nilD)))[i]?=some row→(List.replicate k.toNat (m.zero.map (T.inj nilD)))[i]?=some row:=by
  intro i row h;rw[Yr]at h ⊢;split at h
  ·rw[Wa (by omega)];exact h
  ·cases h
 have S:∀(i:Nat)(row:List DT)(j:Nat)(t:DT),(List.replicate n.toNat (m.zero.map (T.inj nilD)))[i]?=some row→row[j]?=some t→CO w t:=fun i row j t hi hj=>by have:=Xf (Wd hi);subst this;exact G.bare A t (Wd hj)
 have U:cells.size=k.toNat*m.size:=by rw[←p];simp
 have hH:Holds (w.alloc (.cells cells o)) (.s .own ((frD w).row k.toNat) m.size (List.replicate n.toNat (m.zero.map (T.inj nilD)))):=by refine .s _ _ _ _ rfl rfl _ o (0,0) q (by simp[frD];omega) (fun i row h=>R.row i row (r i row h)) (fun i row j t hi hj=>?_) (fun i row j t hi hj=>(S i row j t hi hj).holds.frame fun b _ hb=>g.same b hb);obtain⟨y,y1,y2⟩:=R.val i row j t (r i row hi) hj;exact⟨y,by simpa[frD]using y1,y2⟩
 have hO:OwnT (w.alloc (.cells cells o)) (.s .own ((frD w).row k.toNat) m.size (List.replicate n.toNat (m.zero.map (T.inj nilD)))):=by refine .s _ _ _ rfl rfl _ o 0 0 q (by simp[frD];omega) (by simp[frD,U]) (fun x _ _ h=>by omega) (fun i row j t hi hj=>?_);have:=S i row j t hi hj;exact(sk this.fine this.own).frame fun b _ hb=>g.same b hb
 have s:(List.replicate n.toNat (m.zero.map (T.inj mkD.nil))).flatMap (fun x=>x.flatMap Am.bl)=[]:=by rw[WB];intro row hr;rw[WB];intro t C;obtain⟨i,hi⟩:=Wm hr;obtain⟨j,hj⟩:=Wm C;exact(S i row j t hi hj).bl
 refine⟨_,_,d,(frD w).row k.toNat,m.size,_,rfl,rfl,f,g,⟨by simp[VT,Dec.addr,frD],hH,hO,?_,fun b hb=>?_⟩⟩
 ·intro b;rw[cJ,s];simp only[frD,WC,W2,WG];rw[List.count_singleton];split<;>omega
 ·rw[cJ,s]at hb;simp[frD]at hb;subst hb;exact⟨WU _,by simp⟩
end
def ux (M:US)(x:Operand)(i:Nat):Option (Sl Unit Unit):=
 match x with
 | .tmp q =>
  match M[q]? with
  |some (.tup rs)=>
   match rs[i]? with
   |some (false,[.v y])=>some (.one (.v y))
   |_=>none
  |_=>none
 |_=>none
theorem Ma {M:US}{x:Operand}{i:Nat}{s:Sl Unit Unit}(h:ux M x i=some s):∃q rs y,x = .tmp q∧M[q]?=some (.tup rs)∧rs[i]?=some (false,[.v y])∧s = .one (.v y):=by
 unfold ux at h;split at h
 case h_2=>cases h
 rename_i q;split at h
 case h_2=>cases h
 rename_i rs a;split at h
 case h_2=>cases h
 rename_i y hi;cases h;exact⟨q,rs,y,rfl,a,hi,rfl⟩
theorem Hy {P:Program}{cx:Cx}{D:DSt}{a:Act}{w:World}(I:Inv cx D [] a.tmps w){o:Oper}{x:Operand}{i:Nat}(j:o.op = .extract x i){s:Sl Unit Unit}(e:ux (erD D) x i=some s):
  ∃y,s = .one (.v y)∧(execOp a.eval o).run P w = .ok (.value y) w∧Tells cx D w (.one (.v y)) y:=by
 obtain⟨q,rs,y,rfl,u,hi,rfl⟩:=Ma e;rw[cf,We]at u;obtain⟨A,J,B⟩:=u;obtain⟨b,rfl,rfl⟩:∃b,A = .tup b∧rs=b.map fun r=>(r.1,erL r.2):=by
  cases A with
  |tup b=>exact⟨b,rfl,by simpa[Sl.er]using B.symm⟩
  |_=>simp[Sl.er]at B
 rw[Wr,We]at hi;obtain⟨⟨g,ts⟩,l,c⟩:=hi;simp only[YS]at c;obtain⟨rfl,c⟩:=c;have K:ts=[.v y]:=by
  match ts,c with
  |[],c=>simp at c
  |[t],c =>
   simp only[Wv,WM,XE,Yf]at c;cases t with
   |v x=>rw[dz]at c;cases c;rfl
   |any=>cases c
   |s k d z r=>rw[aC]at c;cases c
  |t::t2::r,c=>simp at c
 subst K;obtain⟨h,L,C,f⟩:=I.val q _ J;have M:i<b.length:=by
  rcases Wl i b.length with g|g
  ·exact g
  ·rw[Wh g]at l;cases l
 have F:=f i _ h.toList[i] l (Wg (by omega));simp only[VPart,WC,W2]at F;obtain⟨t',G,m⟩:=F;simp only[XE,Yf]at G;subst G;have n:a.eval (.tmp q)= .tuple h:=L;have hv:h[i]?=some y:=by have p:h.toList[i]=y:=m.1;rw[←p];simp
 refine⟨y,rfl,?_,Tells.one (t := .v y) ⟨rfl,by have p:h.toList[i]=y:=m.1;have H:=m.2;rw[p]at H;exact H⟩ (.v _) trivial rfl⟩;simp[execOp,j,n,Instr.extract,hv]
def stepV (tab:Tab)(fns:FuncId→Option Func)(C:Sem1)(M:US)(o:Oper):Option (Sl Unit Unit):=
 match callTo M o with
 |some (f,xs,caps)=>if(fns f).isSome∧tab.io.lookup f=none then(argsW mkU tab f M xs).bind fun as=>(C f (as++ims caps)).bind fun rs=>rY mkU rs else none
 |none =>
  match o.op with
  | .buildSlice t len a =>
   match o.dst with
   |some d=>(fb mkU frU tab M (some d) t len a.toList).bind fun U=>match U[d]? with|some (.one u)=>if u.isOwn then some (.one u)else none|_=>none
   |none=>none
  | .makeSlice t l c =>
   match o.dst with
   |some d=>(fd mkU frU tab M (some d) t l c).bind fun U=>match U[d]? with|some (.one u)=>if u.isOwn then some (.one u)else none|_=>none
   |none=>none
  | .alloc b=>(tab.ti b).map fun ti=>.box () (ti.zero.map (T.inj ()))
  | .extract x i=>ux M x i
  | .move x=>match j6 M x with|some rs=>some (.tup rs)|none=>b9 mkU tab M (.move x)
  | .build b a=>m9 mkU tab M b a.toList
  |op=>b9 mkU tab M op
def JN (ops:Array Oper)(M:US)(o:Oper)(K:Option (Sl Unit Unit)):Option (Sl Unit Unit):=
 match o.guard with
 |none=>K
 |some (j,a)=>
  match((ops[j]?).bind (·.dst)).bind (yieldAt M)with
  |some b=>if b=some a then K else some (.tup [])
  |none=>none
theorem KV {rd:em}(hf:∀r∈rd,∀t∈r.2,t.fine=true){s:DSl}(h:rY mkD rd=some s)(t:Nat):¬cQ t s:=by
 have f:∀r∈rd,∀u∈r.2,¬ ∃c j d z r,u=(.s (.lent t c j) d z r:DT):=by rintro r k u i ⟨c,j,d,z,m,rfl⟩;exact absurd (hf r k _ i) (by simp[T.fine])
 unfold rY at h;split at h
 ·rename_i r;split at h
  ·rename_i b row a;cases h;rintro⟨u,i,c,j,d,z,m,rfl⟩;unfold yr at a;split at a
   case h_2=>cases a
   unfold ug at a;split at a
   case h_2=>cases a
   split at a
   case isFalse=>cases a
   rename_i l;cases a;exact absurd (Wt.1 l _ i) (by simp[T.fine])
  obtain⟨g,ts⟩:=r;cases g with
  |true=>cases h;exact fun⟨u,i,e⟩=>f _ (WP _) u i e
  |false =>
   match ts,h with
   |[u],h=>cases h;exact fun e=>f _ (WP _) u (WP _) e
 ·cases h;exact fun⟨r,k,u,i,e⟩=>f r k u i e
theorem Inv.stepV {P:Program}{tab:Tab}(ok:bz P tab){fns:FuncId→Option Func}(hf:kB P fns){B:Base}{C:Sem1}{cx:Cx}(hC:jf P B C cx){D:DSt}{a:Act}{w:World}(I:Inv cx D [] a.tmps w)
  {l:List Nat} {o:Oper} {t:Nat} (hd:o.dst=some t) (W:D[t]?=some .any) {s:Sl Unit Unit} (e:Am.stepV tab fns C (Am.killAll l (erD D)) o=some s) {K:Act→World→Prop} {Q:Exit→Act→World→Prop}
  (Z:∀D' a' w',erD D'=(erD D).set t s→(∃y,a'=a.put o.dst y)→Inv cx D' [] a'.tmps w'→K a' w'):o.wp P a w K Q:=by
 have q:t<D.length:=by
  rcases Wl t D.length with g|g
  ·exact g
  ·rw[Wh g]at W;cases W
 rw[←lj]at e;have Y:=I.killAll l;unfold Am.stepV at e;split at e
 ·rename_i f xs caps hc;split at e
  case isFalse=>cases e
  rename_i Z6;obtain⟨fn,Z7⟩:=XY.1 Z6.1;obtain⟨p1,p2,p3⟩:=hf f fn Z7;rw[Wb]at e;obtain⟨as,M,e⟩:=e;rw[Wb]at e;obtain⟨rs,J,X⟩:=e;rw[Jt]at M;obtain⟨ad,Z8,rfl⟩:=We.1 M;obtain⟨hA,hN⟩:=Y.argsW (Out.nil cx _) Z8;obtain⟨c,x,O,k,Z3,rfl,rfl,Z9,Za⟩:=Y.callTo hc;have Zb:=hA.ims Z9;have Zc:∀s∈ad++ims O,s.isHome=false:=fun s hs=>(WF.1 hs).elim (hN s) (Ke s)
  have Z0:=hC.1 f _ rs J w [] (ad++ims O) _ (hC.2.at I (Out.nil cx D)) (by rw[W8,QD]) Zb;have G:=Hf (w:=w) k Z3 Za p1 p2 p3;unfold Oper.wp;rw[G];refine Z0.mono ?_;rintro e w' ⟨v,od,rd,rfl,g,A,hO,R⟩;have:=OutsOk.none Zc hO;subst this;rw[Fj]at A;subst A;rw[JD]at X;obtain⟨n,Z4,rfl⟩:=We.1 X;have H:Am.putRet mkD D o.dst rd=some (ba D (some t) n):=by rw[hd];simp only[Am.putRet];rw[Wa q,Z4];rfl
  have F:=I.putRet (a:=a) g.grew R H;have L:ba D (some t) n=D.set t n:=ou (fun s' p=>by obtain⟨u,m⟩:=Wm p;exact I.any_refs W (I.val u s' m) (I.kind s' p)) (KV (by simpa using R.fine) Z4 t);rw[L]at F;exact Z _ _ _ (gF D t n) ⟨_,rfl⟩ F
 ·split at e
  ·rename_i bt len Z1 k;rw[hd]at e;simp only at e;rw[Wb]at e;obtain⟨U,k1,k2⟩:=e;rw[vp w]at k1;obtain⟨Zd,k3,rfl⟩:=We.1 k1;obtain⟨y,w',d',N,z,rows,j1,j2,j3,j4,S⟩:=Ff ok Y k3;cases j1;subst j2;have V:(erD (ba (Am.killAll l D) (some t) (.one (.s .own N z rows))))[t]?=some (.one (.s .own () z (rows.map erL))):=by
    rw[cf];have hl:t<(bc t (Am.killAll l D)).length:=by simp[bc,St.dead,xc];exact q
    simp only[ba];rw[Wp hl];simp[Sl.clean,Sl.dead,Sl.gone,T.dead,Sl.er,aC]
   rw[V]at k2;simp only[T.isOwn,WN]at k2;cases k2;have R:RetOk w [] w' [] [] [(false,[(.s .own N z rows:DT)])] y:=by
    refine⟨.inl ⟨_,rfl,?_⟩,fun r A u m=>?_,fun r A u m=>?_,fun r A u m _=>?_,fun b=>?_,fun b hb=>?_⟩
    ·simp only[VPart,WC,W2];exact⟨_,rfl,S.val⟩
    ·rw[WI,Wk]at A;subst A;rw[Wk]at m;subst m;rfl
    ·rw[WI,Wk]at A;subst A;rw[Wk]at m;subst m;exact S.holds
    ·rw[WI,Wk]at A;subst A;rw[Wk]at m;subst m;exact S.own
    ·simpa[ownR,T.isOwn,bA]using S.once b
    ·have:=S.new b (by simpa[ownR,T.isOwn,bA]using hb);exact⟨.inl this.1,this.2⟩
   have H:Am.putRet mkD D o.dst [(false,[(.s .own N z rows:DT)])]=some (ba D (some t) (.one (.s .own N z rows))):=by rw[hd];simp only[Am.putRet];rw[Wa q];rfl
   have F:=I.putRet (a:=a) j4 R H;have L:ba D (some t) (.one (.s .own N z rows))=D.set t (.one (.s .own N z rows)):=ou (fun s' p=>by obtain⟨u,m⟩:=Wm p;exact I.any_refs W (I.val u s' m) (I.kind s' p)) (fun⟨c,fl,d,z,r,h⟩=>by cases h);rw[L]at F;have G:(execOp a.eval o).run P w = .ok (.value y) w':=by simp[execOp,k,j3]
   unfold Oper.wp;rw[G];exact Z _ _ _ (by rw[gF];simp[Sl.er,aC]) ⟨_,rfl⟩ F
  ·rename_i bt lo hi k;rw[hd]at e;simp only at e;rw[Wb]at e;obtain⟨U,k1,k2⟩:=e;rw[wU w]at k1;obtain⟨Zd,k3,rfl⟩:=We.1 k1;obtain⟨y,w',d',N,z,rows,j1,j2,j3,j4,S⟩:=H8 ok Y k3;cases j1;subst j2;have V:(erD (ba (Am.killAll l D) (some t) (.one (.s .own N z rows))))[t]?=some (.one (.s .own () z (rows.map erL))):=by
    rw[cf];have hl:t<(bc t (Am.killAll l D)).length:=by simp[bc,St.dead,xc];exact q
    simp only[ba];rw[Wp hl];simp[Sl.clean,Sl.dead,Sl.gone,T.dead,Sl.er,aC]
   rw[V]at k2;simp only[T.isOwn,WN]at k2;cases k2;have R:RetOk w [] w' [] [] [(false,[(.s .own N z rows:DT)])] y:=by
    refine⟨.inl ⟨_,rfl,?_⟩,fun r A u m=>?_,fun r A u m=>?_,fun r A u m _=>?_,fun b=>?_,fun b hb=>?_⟩
    ·simp only[VPart,WC,W2];exact⟨_,rfl,S.val⟩
    ·rw[WI,Wk]at A;subst A;rw[Wk]at m;subst m;rfl
    ·rw[WI,Wk]at A;subst A;rw[Wk]at m;subst m;exact S.holds
    ·rw[WI,Wk]at A;subst A;rw[Wk]at m;subst m;exact S.own
    ·simpa[ownR,T.isOwn,bA]using S.once b
    ·have:=S.new b (by simpa[ownR,T.isOwn,bA]using hb);exact⟨.inl this.1,this.2⟩
   have H:Am.putRet mkD D o.dst [(false,[(.s .own N z rows:DT)])]=some (ba D (some t) (.one (.s .own N z rows))):=by rw[hd];simp only[Am.putRet];rw[Wa q];rfl
   have F:=I.putRet (a:=a) j4 R H;have L:ba D (some t) (.one (.s .own N z rows))=D.set t (.one (.s .own N z rows)):=ou (fun s' p=>by obtain⟨u,m⟩:=Wm p;exact I.any_refs W (I.val u s' m) (I.kind s' p)) (fun⟨c,fl,d,z,r,h⟩=>by cases h);rw[L]at F;have G:(execOp a.eval o).run P w = .ok (.value y) w':=by simp[execOp,k,j3]
   unfold Oper.wp;rw[G];exact Z _ _ _ (by rw[gF];simp[Sl.er,aC]) ⟨_,rfl⟩ F
  ·rename_i bt k;rw[We]at e;obtain⟨ti,Z5,rfl⟩:=e;have Ze:pn mkD (frD w) tab D (some t) bt=some (ba D (some t) (.box (frD w).box (ti.zero.map (T.inj mkD.nil)))):=by simp only[pn,Z5];rw[Wa q]
   obtain⟨y,w',M,J⟩:=BQ ok I Ze;obtain⟨z,g1,g2,g3⟩:=xv (Tab.ok ok Z5) w;have Z2:∀t∈ti.zero.map (T.inj mkD.nil),t.fine=true:=by intro t ht;rw[g2]at ht;simp only[Wx,ek,Xm]at ht;obtain⟨u,⟨j,hj,rfl⟩,rfl⟩:=ht;unfold zT;split<;>rfl
   have L:ba D (some t) (.box (frD w).box (ti.zero.map (T.inj mkD.nil)))=D.set t (.box (frD w).box (ti.zero.map (T.inj mkD.nil))):=ou (fun s' p=>by obtain⟨u,m⟩:=Wm p;exact I.any_refs W (I.val u s' m) (I.kind s' p)) (fun⟨u,m,c,fl,d,z,r,h⟩=>by have:=Z2 u m;rw[h]at this;simp[T.fine]at this);rw[L]at J;have G:(execOp a.eval o).run P w = .ok (.value y) w':=by simp[execOp,k,M]
   unfold Oper.wp;rw[G];rw[←hd]at J;exact Z _ _ _ (by rw[gF];show(erD D).set t (.box () (erL (ti.zero.map (T.inj mkD.nil))))=_;rw[←q9]) ⟨_,rfl⟩ J
  ·rename_i x i k;obtain⟨y,rfl,M,J⟩:=Hy (P:=P) Y k e;have X:=J.kill l;unfold Oper.wp;rw[M];have F:Inv cx (Am.putA D t (.one (.v y))) [] (a.put (some t) y).tmps w:=I.putA q X;have L:Am.putA D t (.one (.v y))=D.set t (.one (.v y)):=by unfold Am.putA;rw[W]
   rw[L, ←hd]at F;exact Z _ _ _ (by rw[gF];simp[Sl.er,dz]) ⟨_,rfl⟩ F
  ·rename_i x k;rw[DR]at e;have I3:∀(n:DSl)(y:Value),(execOp a.eval o).run P w = .ok (.value y) w→Tells cx (Am.killAll l D) w n y→s=n.er→o.wp P a w K Q:=fun n y M J he=>by
    have X:=J.kill l;unfold Oper.wp;rw[M];have F:Inv cx (Am.putA D t n) [] (a.put (some t) y).tmps w:=I.putA q X;have L:Am.putA D t n=D.set t n:=by unfold Am.putA;rw[W]
    rw[L, ←hd]at F;exact Z _ _ _ (by rw[gF,he]) ⟨_,rfl⟩ F
   cases hT:j6 (Am.killAll l D) x with
   |some rs =>rw[hT]at e;simp only[Wc,WO]at e;exact I3 (.tup rs) (a.eval x) (by simp[execOp,k]) (Hk Y hT) e.symm
   |none =>rw[hT]at e;simp only[Y4]at e;rw[CT]at e;obtain⟨n,e',rfl⟩:=We.1 e;rw[←k]at e';obtain⟨y,M,J⟩:=rN ok Y e';exact I3 n y M J rfl
  ·rename_i bt Z1 k;rw[DK]at e;obtain⟨n,e',rfl⟩:=We.1 e;obtain⟨y,M,J⟩:=BT ok Y e';have X:=J.kill l;have G:(execOp a.eval o).run P w = .ok (.value y) w:=by simp[execOp,k,M]
   unfold Oper.wp;rw[G];have F:Inv cx (Am.putA D t n) [] (a.put (some t) y).tmps w:=I.putA q X;have L:Am.putA D t n=D.set t n:=by unfold Am.putA;rw[W]
   rw[L, ←hd]at F;exact Z _ _ _ (gF D t n) ⟨_,rfl⟩ F
  rw[CT]at e;obtain⟨n,e',rfl⟩:=We.1 e;obtain⟨y,M,J⟩:=rN ok Y e';have X:=J.kill l;unfold Oper.wp;rw[M];have F:Inv cx (Am.putA D t n) [] (a.put (some t) y).tmps w:=I.putA q X;have L:Am.putA D t n=D.set t n:=by unfold Am.putA;rw[W]
  rw[L, ←hd]at F;exact Z _ _ _ (gF D t n) ⟨_,rfl⟩ F
section
variable  {δ β : Type}
def T.isV:T δ→Bool| .v _=>true|_=>false
def iq:Sl δ β→Option (List (T δ))| .one u=>if u.isOwn=true then some [u]else none| .agg ts=>if ts.all (fun t=>t.isOwn ||t.isV)=true then some ts else none|_=>none
def km:Sl δ β→Option (T δ)| .one (.v x)=>some (.v x)|_=>none
def fZ (rd:Nat→Option (Sl δ β))(pl:List (Nat×Nat)):List (Nat×Operand)→List (T δ)→Option (List (T δ))
 |[],ts=>some ts
 |(i,x)::r,ts =>
  match x with
  | .tmp q =>
   match pl[i]?,(rd q).bind km with
   |some (off,size),some t=>if 1=size∧off+1≤ts.length then fZ rd pl r (aD ts off [t])else none
   |_,_=>none
  |_=>none
def xB (rs:List (Bool×List (T δ))):Bool:=rs.all (fun r=>r.2.all fun t=>t.isOwn ||t.isV) && !(rs.all fun r=>r.2.all T.flat)
def la:Sl δ β→Option (List (Bool×List (T δ)))| .tup rs=>if xB rs=true then some rs else none|_=>none
def takeSlot (o:Oper):Option Nat :=
 match o.op with
 | .buildSlice _ _ a=>match a.toList with|[(0,.tmp u)]=>some u|_=>none
 | .build _ a=>match a.toList with|(_,.tmp u)::_=>some u|_=>none
 | .move x=>match x with| .tmp u=>some u|_=>none
 |_=>none
def tt (M:Mk δ β)(F:m5 δ β)(tab:Tab)(rd:Nat→Option (Sl δ β))(o:Oper):Option (Sl δ β):=
 match o.op with
 | .buildSlice t len a =>
  match tab.ti t,a.toList with
  |some ⟨_,_,_,.slice e⟩,[(0,.tmp u)]=>
   match tab.ti e,(rd u).bind iq with
   |some b,some us=>if len=1∧b.size≠0∧b.zero.length=b.size∧b.size≤2 ^ 24∧us.length=b.size then some (.one (.s .own (F.row 1) b.size [us]))else none
   |_,_=>none
  |_,_=>none
 | .build t a =>
  match tab.ti t,tab.pl t,a.toList with
  |some ti,some pl,(i,.tmp u)::r =>
   match pl[i]?,(rd u).bind iq with
   |some (off,size),some us =>if us.length=size∧off+us.length≤(ti.zero.map (T.inj M.nil)).length then(fZ rd pl r (aD (ti.zero.map (T.inj M.nil)) off us)).map fun ts=>.agg ts else none
   |_,_=>none
  |_,_,_=>none
 | .move x=>match x with| .tmp u=>((rd u).bind la).map .tup|_=>none
 |_=>none
theorem Rt {x:Sl δ β}{t:T δ}(h:km x=some t):∃y,x = .one (.v y)∧t = .v y:=by
 unfold km at h;split at h
 ·cases h;exact⟨_,rfl,rfl⟩
 ·cases h
theorem vI {rd a:Nat→Option (Sl δ β)}(b:∀q x,rd q=some x→(km x).isSome=true→a q=some x){pl:List (Nat×Nat)}:∀(r:List (Nat×Operand)){ts us:List (T δ)},
  fZ rd pl r ts=some us→fZ a pl r ts=some us
 |[],ts,us,h=>h
 |(i,x)::r,ts,us,h=>by
  simp only[fZ]at h ⊢;split at h
  ·rename_i q;split at h
   ·rename_i off size t e c;rw[Wb]at c;obtain⟨y,f,d⟩:=c;have g:=b q y f (by rw[d];rfl);simp only[e,g,V9,d];split at h
    ·rename_i hc;rw[Wa hc];exact vI b r h
    ·cases h
   ·cases h
  ·cases h
theorem RX {M:Mk δ β}{F:m5 δ β}{tab:Tab}{rd a:Nat→Option (Sl δ β)}(m:∀q x,rd q=some x→(km x).isSome=true→a q=some x)(l:∀q x,rd q=some x→(iq x).isSome=true→a q=some x)(n:∀q x,rd q=some x→(la x).isSome=true→a q=some x){o:Oper}{s:Sl δ β}
  (h:tt M F tab rd o=some s):tt M F tab a o=some s:=by
 unfold tt at h ⊢;split at h
 ·split at h
  ·rename_i d f;split at h
   ·rename_i v us g b;rw[Wb]at b;obtain⟨y,e,c⟩:=b;have j:=l _ y e (by rw[c];rfl);simp only[d,f,g,j,V9,c];exact h
   ·cases h
  ·cases h
 ·split at h
  ·rename_i ti pl i u r d k f;split at h
   ·rename_i off size us hi b;rw[Wb]at b;obtain⟨y,e,c⟩:=b;have j:=l _ y e (by rw[c];rfl);simp only[d,k,f,hi,j,V9,c];split at h
    ·rename_i hc;rw[Wa hc];rw[We]at h ⊢;obtain⟨ts,p,t⟩:=h;exact⟨ts,vI m r p,t⟩
    ·cases h
   ·cases h
  ·cases h
 ·split at h
  ·rename_i u;rw[We]at h;obtain⟨rs,b,rfl⟩:=h;rw[Wb]at b;obtain⟨y,e,c⟩:=b;rw[n _ y e (by rw[c];rfl),V9,c];rfl
  ·cases h
 ·cases h
theorem B4 (u:Nat)(D:St δ β):(bc u D).length=D.length:=by simp[bc,St.dead]
theorem JL {D:St δ β}{u q:Nat}{x:Value}(h:D[q]?=some (.one (.v x)))(a:q≠u):(bc u D)[q]?=some (.one (.v x)):=by unfold bc;rw[Ws (fun e=>a e.symm)];simp only[St.dead,Wr,h,Wc];rfl
theorem M3 {M:Mk δ β}{D:St δ β}{q:Nat}{x:Value}(h:D[q]?=some (.one (.v x))):cellsCopy M D (.tmp q)=some (false,[.v x]):=by simp only[cellsCopy,opd,uu,h]
theorem uq {M:Mk δ β}{D:St δ β}{u:Nat}(b:∀x,D[u]?≠some (.one (.v x))){pl:List (Nat×Nat)}:∀(r:List (Nat×Operand)){ts us:List (T δ)},fZ (fun q=>D[q]?) pl r ts=some us→cz M (bc u D) pl r ts=some us
 |[],ts,us,h=>h
 |(i,x)::r,ts,us,h=>by
  simp only[fZ]at h;simp only[cz];split at h
  ·rename_i q;split at h
   ·rename_i off size t f c;rw[Wb]at c;obtain⟨y,d,g⟩:=c;obtain⟨v,rfl,rfl⟩:=Rt g;have a:q≠u:=fun e=>b v (e ▸ d)
    rw[f,M3 (JL d a)];simp only;split at h
    ·rename_i hc;rw[Wa (by simpa using hc)];exact uq b r h
    ·cases h
   ·cases h
  ·cases h
theorem CN {M:Mk δ β}{D:St δ β}{u:Nat}{x:Sl δ β}{us:List (T δ)}(h:D[u]?=some x)(a:iq x=some us):(∃g,cellsTake M D (.tmp u)=some (g,us,bc u D))∧us.all (fun t=>t.isOwn ||t.flat)=true∧∀y,D[u]?≠some (.one (.v y)):=by
 unfold iq at a;split at a
 ·rename_i t;split at a
  ·rename_i c;cases a;refine⟨⟨false,?_⟩,by simp[c],fun y e=>?_⟩
   ·simp only[cellsTake,h];rw[Wa c]
   ·rw[h]at e;cases e;cases c
  ·cases a
 ·rename_i ts;split at a
  ·rename_i b;cases a;refine⟨⟨true,?_⟩,?_,fun y e=>?_⟩
   ·simp only[cellsTake,h];rw[Wa];rw[Wt]at b ⊢;intro t f;have:=b t f;cases t with
    |v x=>rfl
    |any=>rfl
    |s k d z r=>cases k<;>first|rfl|(simp[T.isOwn,T.isV]at this)
   ·rw[Wt]at b ⊢;intro t f;have:=b t f;cases t with
    |v x=>rfl
    |any=>simp[T.isOwn,T.isV]at this
    |s k d z r=>cases k<;>first|rfl|(simp[T.isOwn,T.isV]at this)
   ·rw[h]at e;cases e
  ·cases a
 ·cases a
theorem RY {x:Sl δ β}{rs:List (Bool×List (T δ))}(h:la x=some rs):x = .tup rs∧(rs.all fun r=>r.2.all T.noLent)=true∧(rs.all fun r=>r.2.all T.flat)=false:=by
 unfold la at h;split at h
 ·rename_i rs';split at h
  ·rename_i a;cases h;unfold xB at a;rw[Ww]at a;refine⟨rfl,?_,by simpa using a.2⟩;rw[Wt];intro r b;rw[Wt];intro t c;have:=Wt.1 (Wt.1 a.1 r b) t c;cases t with
   |v x=>rfl
   |any=>rfl
   |s k d z r=>cases k<;>first|rfl|(simp[T.isOwn,T.isV]at this)
  ·cases h
 ·cases h
theorem IJ {M:Mk δ β}{F:m5 δ β}{tab:Tab}{D:St δ β}{o:Oper}{t u:Nat}(hd:o.dst=some t)(a:takeSlot o=some u)(p:t<D.length){s:Sl δ β}(z:bc u D=D.set u .any)(h:tt M F tab (fun q=>D[q]?) o=some s):
  dx M F tab D o true=some (ba (bc u D) (some t) s):=by
 unfold tt at h;unfold takeSlot at a;unfold dx;split at h
 ·rename_i A len d b;simp only[b]at a ⊢;split at h
  ·rename_i sz B K e u' f k;simp only[k]at a;cases a;split at h
   ·rename_i L us v c;rw[Wb]at c;obtain⟨x,j,l⟩:=c;obtain⟨⟨g,m⟩,n,_⟩:=CN (M:=M) j l;split at h
    ·rename_i hc;cases h;rw[Wa trivial];simp only[kr,f,hd,k,v,m];rw[Wa ⟨hc.1,by rw[B4];exact p,hc.2.1,hc.2.2.1,hc.2.2.2.1,hc.2.2.2.2,n⟩]
    ·cases h
   ·cases h
  ·cases h
 ·rename_i A d b;simp only[b]at a ⊢;split at h
  ·rename_i ti pl i u' r f w k;simp only[k]at a;cases a;split at h
   ·rename_i off size us hi c;rw[Wb]at c;obtain⟨x,j,l⟩:=c;obtain⟨⟨g,m⟩,n,C⟩:=CN (M:=M) j l;split at h
    ·rename_i hc;rw[We]at h;obtain⟨ts,G,rfl⟩:=h;rw[Wa trivial];refine Jj ?_;simp only[pL,f,w,k,hd,hi,m];rw[Wa ⟨hc.1,hc.2,by rw[B4];exact p⟩,uq C r G];rfl
    ·cases h
   ·cases h
  ·cases h
 ·rename_i x b;simp only[b]at a ⊢;split at h
  ·rename_i u';cases a;rw[We]at h;obtain⟨rs,a,rfl⟩:=h;rw[Wb]at a;obtain⟨y,j,l⟩:=a;obtain⟨rfl,m,n⟩:=RY l;have H:uN tab o.type (.tmp u)=none:=rfl;have I:j6 D (.tmp u)=none:=by simp only[j6,j];rw[Wo (fun q=>by rw[n]at q;cases q.1)]
   have J:nQ D (.tmp u) o.dst=some (ba (D.set u .any) (some t) (.tup rs)):=by simp only[nQ,hd,j];rw[Wa ⟨p,m⟩]
   simp only[H,I,J,WN];rw[z]
  ·cases h
 ·cases h
end
theorem QE (t:DT):t.er.isV=t.isV:=by
 cases t with
 |v x=>rfl
 |any=>rfl
 |s k d z r=>simp[aC,T.isV]
theorem QO (x:DSl):iq x.er=(iq x).map erL:=by
 cases x with
 |one u =>simp only[Sl.er,iq,dw];split<;>rfl
 |agg ts =>
  simp only[Sl.er,iq];have:(erL ts).all (fun t=>t.isOwn ||t.isV)=ts.all (fun t=>t.isOwn ||t.isV):=by show(ts.map T.er).all _=_;rw[Xi];congr 1;funext t;show(t.er.isOwn ||t.er.isV)=_;rw[dw,QE]
  rw[this];split<;>rfl
 |_=>rfl
theorem QP (x:DSl):la x.er=(la x).map (List.map fun r=>(r.1,erL r.2)):=by
 cases x with
 |tup rs =>
  simp only[Sl.er,la];have a:∀l:List DT,(erL l).all (fun t=>t.isOwn ||t.isV)=l.all (fun t=>t.isOwn ||t.isV):=fun l=>by show(l.map T.er).all _=_;rw[Xi];congr 1;funext t;show(t.er.isOwn ||t.er.isV)=_;rw[dw,QE]
  have b:∀l:List DT,(erL l).all T.flat=l.all T.flat:=fun l=>by show(l.map T.er).all _=_;rw[Xi];congr 1;funext t;exact wS t
  have:xB (rs.map fun r=>(r.1,erL r.2))=xB rs:=by
   unfold xB;rw[Xi,Xi];congr 1
   ·congr 1;funext r;exact a r.2
   ·congr 2;funext r;exact b r.2
  rw[this];split<;>rfl
 |_=>rfl
theorem QK (x:DSl):km x.er=(km x).map T.er:=by
 cases x with
 |one u =>
  cases u with
  |v y=>rfl
  |any=>rfl
  |s k d z r=>simp[Sl.er,aC,km]
 |_=>rfl
theorem yO (D:DSt)(pl:List (Nat×Nat)):∀(r:List (Nat×Operand))(ts:List DT),fZ (fun q=>(erD D)[q]?) pl r (erL ts)=(fZ (fun q=>D[q]?) pl r ts).map erL
 |[],ts=>rfl
 |(i,x)::r,ts=>by
  simp only[fZ];split
  ·rename_i q;have e:((erD D)[q]?).bind km=((D[q]?).bind km).map T.er:=by
    rw[cf];cases D[q]? with
    |none=>rfl
    |some y=>simp only[Wc,V9,QK]
   rw[e];cases pl[i]? with
   |none=>rfl
   |some os =>
    obtain⟨off,size⟩:=os;cases(D[q]?).bind km with
    |none=>rfl
    |some t =>
     simp only[Wc,WH];split
     ·have a:aD (erL ts) off [t.er]=erL (aD ts off [t]):=(mH ts off [t]).symm;rw[a];exact yO D pl r _
     ·rfl
  ·rfl
theorem To (w:World)(tab:Tab)(D:DSt)(o:Oper):tt mkU frU tab (fun q=>(erD D)[q]?) o=(tt mkD (frD w) tab (fun q=>D[q]?) o).map Sl.er:=by
 have b:∀u,((erD D)[u]?).bind iq=((D[u]?).bind iq).map erL:=fun u=>by
  rw[cf];cases D[u]? with
  |none=>rfl
  |some y=>simp only[Wc,V9,QO]
 unfold tt;split
 ·split
  ·rename_i sz c j e u a d;simp only[b];cases tab.ti e with
   |none=>rfl
   |some k =>
    cases(D[u]?).bind iq with
    |none=>rfl
    |some us =>
     simp only[Wc,WH];split
     ·simp only[Wc,Sl.er,aC,Wv,WM]
     ·rfl
  ·rfl
 ·split
  ·rename_i ti pl i u r a f d;simp only[b];cases pl[i]? with
   |none=>rfl
   |some os =>
    obtain⟨off,size⟩:=os;cases(D[u]?).bind iq with
    |none=>rfl
    |some us =>
     simp only[Wc,WH];split
     ·have g:aD (ti.zero.map (T.inj mkU.nil)) off (erL us)=erL (aD (ti.zero.map (T.inj mkD.nil)) off us):=by rw[q9,mH]
      rw[g,yO];cases fZ (fun q=>D[q]?) pl r (aD (ti.zero.map (T.inj mkD.nil)) off us)with
      |none=>rfl
      |some ts=>simp only[Wc,Sl.er]
     ·rfl
  ·rfl
 ·split
  ·rename_i u h;show(((erD D)[u]?).bind la).map Sl.tup=(((D[u]?).bind la).map Sl.tup).map Sl.er;rw[cf];cases D[u]? with
   |none=>rfl
   |some y =>
    simp only[Wc,V9,QP];cases la y with
    |none=>rfl
    |some rs=>rfl
  ·rfl
 ·rfl
theorem vY {p:Nat→Nat→Bool}{t:DT}(h:((t.dead p).isOwn ||(t.dead p).isV)=true):t.dead p=t:=by
 cases t with
 |v x=>rfl
 |any=>rfl
 |s k d z r =>
  cases k with
  |own=>rfl
  |far=>rfl
  |lent b c e =>
   simp only[T.dead]at h ⊢;split
   ·rename_i a;rw[Wa a]at h;simp[T.isOwn,T.isV]at h
   ·rfl
theorem Kg {D:DSt}{a q:Nat}{x:DSl}(h:(kill1 D a)[q]?=some x)(hx:(iq x).isSome=true∨(km x).isSome=true∨(la x).isSome=true):D[q]?=some x:=by
 by_cases e:a<D.length
 ·rw[px D a q e]at h;split at h
  ·cases h;rcases hx with hx|hx|hx<;>cases hx
  ·rw[We]at h;obtain⟨y,j,m⟩:=h;rw[j];congr 1;subst m;cases y with
   |any=>rfl
   |one u =>
    simp only[Sl.clean,Sl.dead,Sl.gone]at hx ⊢;rw[vY];rcases hx with hx|hx|hx
    ·simp only[iq]at hx;split at hx
     ·rename_i n;simp[n]
     ·cases hx
    ·unfold km at hx;split at hx
     ·rename_i v w;cases o:(u.dead (atH a))<;>simp_all[T.isV]
     ·cases hx
    ·cases hx
   |agg ts =>
    simp only[Sl.clean,Sl.dead,Sl.gone]at hx ⊢;rcases hx with hx|hx|hx
    ·simp only[iq]at hx;split at hx
     ·rename_i c;rw[Wt]at c;have:=WT (f:=T.dead (atH a)) (g:=id) (l:=ts) fun t d=>vY (c _ (XO d))
      rw[Yh]at this;rw[this]
     ·cases hx
    ·cases hx
    ·cases hx
   |box b ts=>simp only[Sl.clean,Sl.dead,Sl.gone]at hx;rcases hx with hx|hx|hx<;>cases hx
   |al=>simp only[Sl.clean,Sl.dead]at hx ⊢;split at hx<;>(rcases hx with hx|hx|hx<;>cases hx)
   |pe=>simp only[Sl.clean,Sl.dead]at hx ⊢;split at hx<;>(rcases hx with hx|hx|hx<;>cases hx)
   |pb=>simp only[Sl.clean,Sl.dead,Sl.gone]at hx ⊢;split at hx<;>(rcases hx with hx|hx|hx<;>cases hx)
   |clo=>simp only[Sl.clean,Sl.dead,Sl.gone]at hx ⊢;split at hx<;>(rcases hx with hx|hx|hx<;>cases hx)
   |im k b ts off =>
    cases k with
    |lent=>simp only[Sl.clean,Sl.dead]at hx ⊢;split at hx<;>(rcases hx with hx|hx|hx<;>cases hx)
    |_=>rcases hx with hx|hx|hx<;>cases hx
   |fni f caps=>rcases hx with hx|hx|hx<;>cases hx
   |tup rs =>
    simp only[Sl.clean,Sl.dead,Sl.gone]at hx ⊢;rcases hx with hx|hx|hx
    ·cases hx
    ·cases hx
    ·simp only[la]at hx;split at hx
     ·rename_i c;unfold xB at c;rw[Ww]at c;have:=WT (f:=fun r:Bool×List DT=>(r.1,r.2.map (T.dead (atH a)))) (g:=id) (l:=rs) fun r p=>by
       have s:=Wt.1 c.1 (r.1,r.2.map (T.dead (atH a))) (XO p);have i:=WT (f:=T.dead (atH a)) (g:=id) (l:=r.2) fun t d=>vY (Wt.1 s _ (XO d))
       rw[Yh]at i;show(r.1,_)=r;rw[i]
      rw[Yh]at this;rw[this]
     ·cases hx
 ·unfold kill1 at h;rw[Wo e]at h;exact h
theorem np:∀(l:List Nat){D:DSt}{q:Nat}{x:DSl},(killAll l D)[q]?=some x→(iq x).isSome=true∨(km x).isSome=true∨(la x).isSome=true→D[q]?=some x
 |[],D,q,x,h,_=>h
 |a::l,D,q,x,h,b=>by simp only[killAll,XD]at h;exact Kg (np l h b) b
def T.lentTo {δ:Type}(t:Nat):T δ→Bool| .s (.lent h _ _) _ _ _=>h==t|_=>false
def eL {δ β:Type}(t:Nat):Sl δ β→Bool| .al h _ _ _ _=>h==t| .pe h _ _ _ _=>h==t| .pb h _=>h==t| .clo _ hs=>hs.contains t| .im (.lent h _ _) _ _ _=>h==t| .one u=>u.lentTo t| .agg ts=>ts.any (T.lentTo t)| .box _ ts=>ts.any (T.lentTo t)| .tup rs=>rs.any fun r=>r.2.any (T.lentTo t)|_=>false
theorem Ua {t:Nat}{s:DSl}(h:cQ t s):eL t s.er=true:=by
 have g:∀(ts:List DT),(∃u∈ts,∃c e d z r,u = .s (.lent t c e) d z r)→(erL ts).any (T.lentTo t)=true:=by rintro ts ⟨u,j,c,e,d,z,r,rfl⟩;rw[Xx];exact⟨_,XO j,by simp[aC,T.lentTo]⟩
 cases s with
 |any=>cases h
 |one u=>obtain⟨c,e,d,z,r,rfl⟩:=h;simp[Sl.er,aC,eL,T.lentTo]
 |agg ts=>exact g ts h
 |box b ts=>exact g ts h
 |al a c st lo len=>simp only[cQ]at h;subst h;simp[Sl.er,eL]
 |pe a c st i off=>simp only[cQ]at h;subst h;simp[Sl.er,eL]
 |pb a off=>simp only[cQ]at h;subst h;simp[Sl.er,eL]
 |im k b ts off =>
  cases k with
  |lent a c e=>simp only[cQ]at h;subst h;simp[Sl.er,eL]
  |_=>cases h
 |fni f caps=>cases h
 |clo f hs =>have a:t∈hs:=h;simp[Sl.er,eL,a]
 |tup rs =>obtain⟨r,l,j⟩:=h;simp only[Sl.er,eL];rw[Xx];exact⟨_,XO l,g r.2 j⟩
theorem KG {t:Nat}{s:DSl}(h:eL t s.er=false):¬cQ t s:=fun q=>by rw[Ua q]at h;cases h
theorem Ae {D:DSt}{u:Nat}(b:∀s∈D,¬cQ u s):bc u D=D.set u .any:=by
 have:(St.dead (atH u) (qH u) D).map (Sl.gone u)=D:=by
  simp only[St.dead,WW]
  conv=>rhs;rw[←Yh D]
  exact WT fun s' a=>vW (b s' a)
 unfold bc;rw[this]
theorem Inv.stepT {P:Program}{tab:Tab}(ok:bz P tab){cx:Cx}{D:DSt}{a:Act}{w:World}(I:Inv cx D [] a.tmps w){l:List Nat}{o:Oper}{t u:Nat}(hd:o.dst=some t)(k:D[t]?=some .any)(v:Am.takeSlot o=some u)
  (z:∀s∈erD D,eL u s=false) {s:Sl Unit Unit} (e:tt mkU frU tab (fun q=>(Am.killAll l (erD D))[q]?) o=some s) (hs:eL t s=false) {K:Act→World→Prop} {Q:Exit→Act→World→Prop}
  (A:∀D' m w',erD D'=((erD D).set u .any).set t s→(∃y,m=a.put o.dst y)→Inv cx D' [] m.tmps w'→K m w'):o.wp P a w K Q:=by
 have n:t<D.length:=by
  rcases Wl t D.length with g|g
  ·exact g
  ·rw[Wh g]at k;cases k
 rw[←lj,To w]at e;obtain⟨B,C,rfl⟩:=We.1 e;have F:tt mkD (frD w) tab (fun q=>D[q]?) o=some B:=RX (fun q x c d=>np l c (.inr (.inl d))) (fun q x c d=>np l c (.inl d)) (fun q x c d=>np l c (.inr (.inr d))) C;have f:∀s∈D,¬cQ u s:=fun s hs=>KG (z s.er (XO hs))
 have p:∀s∈D,¬cQ t s:=fun s' b=>by obtain⟨i,hi⟩:=Wm b;exact I.any_refs k (I.val i s' hi) (I.kind s' b)
 have r:=IJ hd v n (Ae f) F;rw[Ae f,ou (fun s' b=>by
  rcases Xj b with h|rfl
  ·exact p s' h
  ·exact fun h=>h) (KG hs)]at r
 obtain⟨G,w',c,d⟩:=E0 ok I r;unfold Oper.wp;rw[c];cases d with
 |value y h=>exact A _ _ _ (by rw[gF,gF];rfl) ⟨_,rfl⟩ h
 |skip j h=>rw[hd]at j;cases j
def tko (tk:Nat→Bool)(ops:Array Oper)(j:Nat):Option Nat:=if tk j=true then(ops[j]?).bind fun o=>if o.guard.isNone=true then takeSlot o else none else none
def iO (tk:Nat→Bool)(ops:Array Oper)(m:Nat):List Nat:=(List.range m).filterMap (tko tk ops)
def nP (tk:Nat→Bool)(ops:Array Oper)(m j:Nat):List Nat:=(List.range m).filterMap fun k=>if k=j then none else tko tk ops k
def kf (tk:Nat→Bool)(ops:Array Oper)(m:Nat)(anc:List (List Nat))(j:Nat):List Nat :=
 (List.range m).filterMap fun i=>match(ops[i]?).bind (·.dst)with
  |some t=>if((anc.getD j []).contains i && !((nP tk ops m j).contains t))=true then none else some t
  |none=>none
def IR (tk:Nat→Bool)(ops:Array Oper)(m:Nat)(anc:List (List Nat)):Bool :=
 decide (m≤ops.size) &&
 (List.range ops.size).all (fun j=>(b8 ops j).all fun i=>decide (i<j)) &&
 (List.range m).all (fun j=>((ops[j]?).bind (·.dst)).isSome)&&decide ((dp ops m).Nodup) &&
 (List.range ops.size).all (fun j=>(anc.getD j []).all fun i=>(b8 ops j).contains i ||(b8 ops j).any fun k=>(anc.getD k []).contains i) &&
 (List.range ops.size).all (fun j=>decide (j<m)||(List.range j).all fun i=>(b8 ops j).contains i ||(b8 ops j).any fun k=>(anc.getD k []).contains i) &&
 (List.range m).all (fun k=>match tko tk ops k with
  |some u=>(List.range m).any (fun i=>(anc.getD k []).contains i&&decide ((ops[i]?).bind (·.dst)=some u)) && !((nP tk ops m k).contains u)
  |none=>true)
def evM (tab:Tab)(fns:FuncId→Option Func)(C:Sem1)(tk:Nat→Bool)(ops:Array Oper)(m:Nat)(anc:List (List Nat))(j:Nat)(U:US):Option (Sl Unit Unit):=
 match ops[j]? with
 |some o =>
  match o.dst with
  |some t =>
   (match tko tk ops j with
    |none=>JN ops (killAll (kf tk ops m anc j) U) o (stepV tab fns C (killAll (kf tk ops m anc j) U) o)
    |some _=>tt mkU frU tab (fun q=>(killAll (kf tk ops m anc j) U)[q]?) o).bind fun s=>if(t::iO tk ops m).all (fun v => !eL v s)=true then some s else none
  |none=>none
 |none=>none
def pa (tk:Nat→Bool)(ops:Array Oper)(j:Nat)(U:US):US:=match tko tk ops j with|none=>U|some u=>U.set u .any
def stepM (tab:Tab)(fns:FuncId→Option Func)(C:Sem1)(tk:Nat→Bool)(ops:Array Oper)(m:Nat)(anc:List (List Nat))(U:US)(j:Nat):Option US :=
 match(ops[j]?).bind (·.dst)with
 |some t =>
  match U[t]? with
  |some .any=>(evM tab fns C tk ops m anc j U).map fun s=>(pa tk ops j U).set t s
  |_=>none
 |none=>none
def ox (tab:Tab)(fns:FuncId→Option Func)(C:Sem1)(tk:Nat→Bool)(ops:Array Oper)(m:Nat)(anc:List (List Nat)):Nat→Nat→US→Option US| 0,_,U=>some U|n+1,j,U=>(stepM tab fns C tk ops m anc U j).bind (ox tab fns C tk ops m anc n (j+1))
def runD (tab:Tab)(fns:FuncId→Option Func)(C:Sem1)(tk:Nat→Bool)(ops:Array Oper)(m:Nat)(anc:List (List Nat))(D:US):Option US :=if IR tk ops m anc&&(dp ops m).all (fun t=>decide (t<D.length))&&(killAll (dp ops m) D).all (fun s=>(iO tk ops m).all fun u => !eL u s)then (ox tab fns C tk ops m anc m 0 (killAll (dp ops m) D)).bind (runOps tab fns C tk ops (ops.toList.drop m) m)else none
theorem SV {tk:Nat→Bool}{ops:Array Oper}{j u:Nat}{o:Oper}(a:ops[j]?=some o)(h:tko tk ops j=some u):takeSlot o=some u∧o.guard=none:=by
 unfold tko at h;split at h
 ·rw[a,V9]at h;split at h
  ·rename_i b;exact⟨h,YZ.1 b⟩
  ·cases h
 ·cases h
end Go.Proofs.YtjikhkndmohepaaGreatDoor.Am
