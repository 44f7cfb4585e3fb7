/- An abstract machine over trees, and that its steps are sound, a part. Conditions: none. -/
import Derived.Test.YtlhgcolciklecaaAma
import Derived.Laws.BytesArg
import Derived.Laws.IdiomStrings
import Derived.Orders
namespace Go.Proofs.Ytlhgcolciklecaa.Am
open Go
set_option linter.unusedVariables false
set_option linter.unusedSimpArgs false
section
variable  {δ β : Type}
def mn (M:Mk δ β)(D:St δ β)(c:Bool)(x:Operand):Option (Nat×List (List (T δ))×St δ β):=
 match c with
 |true =>
  match cellsCopy M D x with
  |some (false,[.s _ _ b a])=>if a.all (fun r=>r.all T.flat)=true then some (b,a,D)else none
  |_=>none
 |false =>
  match cellsTake M D x with
  |some (false,[.s .own _ b a],d)=>some (b,a,d)
  |_=>none
def ga (M:Mk δ β)(F:gq δ β)(tab:Tab)(D:St δ β)(dst:Option Nat)(t g:Nat)(s x:Operand):Option (St δ β):=
 match tab.ti t,tab.ti g,dst,cellsTake M D s with
 |some ⟨_,_,_,.slice e⟩,some ⟨_,_,_,.slice _⟩,some c,some (false,[.s .own d z rows],D1)=>
  match tab.ti e with
  |some b =>
   match mn M D1 (b.zero.all T.flat) x with
   |some (h,a,f)=>
    if c<f.length∧b.size=z∧b.size≠0∧b.zero.length=b.size∧h=z then
     if(rows.length+a.length)*b.bytes≤140737488355328∧rows.length+a.length≤4611686018427387904 then
      some (aE f (some c) (.one (.s .own (F.app d rows.length a.length e) z (rows++a))))
     else none
    else none
   |none=>none
  |none=>none
 |_,_,_,_=>none
end
theorem vU {t:DT}(h:t.flat=true):bl t=[]:=by
 cases t with
 |v x=>rfl
 |any=>rfl
 |s k d z r=>cases h
theorem tj {w:World}{t:DT}(h:t.flat=true):OwnT w t∧Holds w t:=by
 cases t with
 |v x=>exact⟨.v x,.v x⟩
 |any=>exact⟨.any,.any⟩
 |s k d z r=>cases h
theorem wB {cx:Cx}{D t:DSt}{y:List (DT×Value)}{a:Act}{w:World}(I:Inv cx D y a.tmps w){z:Bool}{x:Operand}{n:Nat}{c:List (List DT)}(e:mn mkD D z x=some (n,c,t)):
  ∃l k m,Inv cx t (m++y) a.tmps w∧VT (.s l k n c) (a.eval x)∧Holds w (.s l k n c)∧(∀(i:Nat)(row:List DT)(j:Nat)(u:DT),c[i]?=some row→row[j]?=some u→OwnT w u) ∧
   ∀b,(c.flatMap (fun x=>x.flatMap bl)).count b≤az m b:=by
 unfold mn at e;split at e
 ·split at e
  case h_2=>cases e
  rename_i l k o g p;split at e
  case isFalse=>cases e
  rename_i d;cases e;obtain⟨q,h,f⟩:=I.cellsCopy p;simp only[bd,EE,E3]at f;subst f;refine⟨l,k,[],I,h.v.2 0 _ _ rfl rfl,h.holds _ (EN _),fun i row j u h1 h2=>(tj (Eo.1 (Eo.1 d row (Ef h1)) u (Ef h2))).1,fun b=>?_⟩;have:c.flatMap (fun x=>x.flatMap bl)=[]:=by rw[Ey];intro row A;rw[Ey];intro u B;exact vU (Eo.1 (Eo.1 d row A) u B)
  rw[this];simp
 ·split at e
  case h_2=>cases e
  rename_i k o g C p;cases e;obtain⟨q,m,F,h,f⟩:=I.cellsTakeP p;simp only[bd,EE,E3]at f;subst f;have G:=h.own _ (EN _) rfl;refine⟨.own,k,m,F,h.v.2 0 _ _ rfl rfl,h.holds _ (EN _),fun i row j u h1 h2=>?_,fun b=>?_⟩
  ·cases G with
   |nil=>simp at h1
   |s _ _ _ _ _ _ _ _ _ _ _ _ _ r=>exact r i row j u h1 h2
  ·have:=h.cnt b;simp only[Ez,FO,EH,ownR,T.isOwn,EV,bR,ED]at this;omega
theorem sJ {P:Program}{tab:Tab}(ok:aK P tab){cx:Cx}{D D':DSt}{a:Act}{w:World}(I:Inv cx D [] a.tmps w){dst:Option Nat}{t t2 ty:Nat}{s x:Operand}
  (e:ga mkD (frD w) tab D dst t t2 s x=some D'):∃y w',(Builtin.append_ #[t,t2] ty #[a.eval s,a.eval x]).run P w = .ok y w'∧Inv cx D' [] (a.put dst y).tmps w':=by
 unfold ga at e;split at e
 case h_2=>cases e
 rename_i _ _ _ N _ _ _ I9 d' d z rows D1 Hr Hi hs;split at e
 case h_2=>cases e
 rename_i n Hs;split at e
 case h_2=>cases e
 rename_i z2 f D2 hx;split at e
 case isFalse=>cases e
 rename_i hc;split at e
 case isFalse=>cases e
 rename_i hn;cases e;obtain⟨hd,rfl,Ia,Ht,rfl⟩:=hc;obtain⟨G7,Ib⟩:=hn;obtain⟨ys,H6,I0,G,hv⟩:=I.cellsTake hs;obtain⟨k2,d2,P2,I1,Hu,Hj,U,H7⟩:=wB I0 hx;have L:=cU (Tab.ok ok Hr) rfl;have H8:=cU (Tab.ok ok Hi) rfl;obtain⟨i,dd,zv,g1,Ic,Hv,g4,g5,g2,g7,g3⟩:=cW (Tab.ok ok Hs);have Hw:zv.cells.size=n.size:=by rw[←Ht,g2];simp[b7]
 simp only[bd,EE,E3]at hv;subst hv;have hy:VT (.s .own d n.size rows) (a.eval s):=G.v.2 0 _ _ rfl rfl;have hH:=G.holds _ (EN _);have hO:=G.own _ (EN _) rfl;have H9:∀b,(bl (.s .own d n.size rows:DT)).count b≤az H6 b:=fun b=>by have:=G.cnt b;simpa[ownR,T.isOwn]using this
 generalize Hk:P2++H6=Pd at I1;have O:∀b,(bl (.s .own d n.size rows:DT)).count b+(f.flatMap (fun x=>x.flatMap bl)).count b≤az Pd b:=fun b=>by have h1:=H9 b;have h2:=H7 b;rw[←Hk,db,Gl (az P2 b)];exact Nat.add_le_add h1 h2
 obtain⟨C,R1,o1,c1⟩:=hH.cells (by omega);obtain⟨l,R2,o2,c2⟩:=Hj.cells (by omega);have Q:∀(i:Nat)(row:List DT)(j:Nat)(u:DT),f[i]?=some row→row[j]?=some u→Holds w u:=fun i row j u h1 h2=>by
  cases Hj with
  |e=>simp at h1
  |s _ _ _ _ _ _ c' e' f' J _ _ G8 V=>exact V i row j u h1 h2
 have W:a.eval s = .slice d.addr rows.length d.cap:=hy;have Hl:a.eval x = .slice d2.addr f.length d2.cap:=Hu;have Hx:l.length=f.length*i.size:=by rw[g4];exact R2.len
 have Hy:∀w0:World,(∀a,w0.cell? a=w.cell? a)→Src P i.size t2 (a.eval x) f.length l w0:=by
  intro w0 Hz;rw[Hl];rcases c2 with⟨rfl,rfl⟩|⟨H,X,q3⟩
  ·cases K:d2.addr with
   |none=>exact Src.ofNil w0 H8 d2.cap
   |some ad=>exact Src.ofSlice w0 H8 ad 0 d2.cap [] (by simp) (fun j u h=>by simp at h) (fun u h=>by cases h)
  ·have K:d2.addr=some ⟨d2.b,d2.o,none⟩:=by rw[Dec.addr_none X,H];rfl
   rw[K];exact Src.ofSlice w0 H8 _ _ _ l Hx (fun j u h=>by rw[Hz,Addr.add_lit];exact q3 j u h) o2
 have hS:=Hy w (fun _=>rfl);by_cases hroom:rows.length+f.length≤d.cap
 ·
  have Y:(frD w).app d rows.length f.length N=d:=by simp only[frD];rw[Ej hroom]
  rw[Y];cases hO with
  |nil _ _ F hsp hcap =>
   rw[hcap]at hroom;have h2:f=[]:=Fh.1 (by have h:=hroom;rw[Gk]at h;omega);subst h2;have Ha:l=[]:=Fh.1 (by rw[R2.len];simp);subst Ha;have K:d.addr=none:=by rw[Dec.addr_none hsp,F];rfl
   refine⟨a.eval s,w,?_,?_⟩
   ·rw[W,K,hcap];have hk:=hS.kind;have I4:(Builtin.firstCells i.size 0 (a.eval x)).run P w = .ok #[] w:=by simpa using hS.cells
    rcases hk with⟨e',hk⟩|hk <;>
     simp[Builtin.append_,run_underlying L,run_underlying hk,sizeOf,typeInfo,g1,hS.len,I4]
   ·have hG:Got cx D2 w Pd [(.s .own d n.size []:DT)] [a.eval s]:=⟨G.v,G.holds,G.own,fun u L=>by rw[Er]at L;subst L;trivial,fun b=>by
     have h1:=G.cnt b;have h3:az Pd b=az P2 b+az H6 b:=by rw[←Hk,db]
     omega⟩
    exact I1.putGot (g:=false) (s := .one (.s .own d n.size ([]++[]))) hG (by simp[bd]) rfl (fun t' h=>by cases h;exact hd) rfl
  |s _ _ _ F hsp c ec lo hi hb hcap G9 Hm Hb =>
   have K:d.addr=some ⟨d.b,d.o,none⟩:=by rw[Dec.addr_none hsp,F];rfl
   have I5:(rows.length+f.length)*n.size≤d.cap*n.size:=Fj _ hroom;rw[FC]at I5;have I7:l.length=f.length*n.size:=R2.len;have S:d.o+rows.length*n.size+l.length≤c.size:=by omega
   have r:=run_append_room_src (P:=P) w t t2 ty N i L g1 d.b d.o rows.length d.cap (a.eval x) f.length l hS hroom
    (fun j hj=>by rw[kv hb,g4,EO (by omega)];rfl)
    (fun j hj=>by have hx:=Hm (d.o+rows.length*n.size+j) (by omega) (by omega);rw[g4];simp only[World.frozen?,hb];simp;omega)
   rw[←K, ←W,g4]at r;obtain⟨f1,f2,f3,f4,f5,f6⟩:=eY d.b ec (lo,hi) l (d.o+rows.length*n.size) w c hb S;generalize Ie:w.setCells d.b (d.o+rows.length*n.size) l=w' at r f1 f2 f3 f4 f5 f6;have H4:d.b∈bl (.s .own d n.size rows:DT):=fO F;have hB:0<az Pd d.b:=EU (Ew.2 H4) (by have:=O d.b;omega);have I8:(bl (.s .own d n.size rows:DT)).count d.b+(f.flatMap (fun x=>x.flatMap bl)).count d.b≤1:=E7 (O d.b) (by have:=I1.once d.b;omega);have H0:∀(m:Nat)(A:List DT)(j:Nat)(u:DT),rows[m]?=some A→A[j]?=some u→d.b∉bl u:=by intro m A j u h1 h2 hm;have H:=sq (k := .own) (d:=d) (z:=n.size) h1 h2 d.b;rw[F]at H;simp only[EE,E3]at H;have q3:0<(bl u).count d.b:=Ew.2 hm;simp at H;omega
   have Z:∀(m:Nat)(A:List DT)(j:Nat)(u:DT),f[m]?=some A→A[j]?=some u→d.b∉bl u:=by intro m A j u h1 h2 hm;have q0:0<(bl (.s .own d n.size rows:DT)).count d.b:=Ew.2 H4;have H:0<(f.flatMap (fun x=>x.flatMap bl)).count d.b:=Ew.2 (Eq.2 ⟨A,Ef h1,Eq.2 ⟨u,Ef h2,hm⟩⟩);omega
   have gx:so d.b w w':=⟨f4,f5,f6,by omega,fun b J _=>f2 b J⟩
   have Hc:d.o+rows.length*n.size+l.length≤c.toList.length:=by simpa using S
   have G4:∀(m:Nat)(row:List DT),(rows++f)[m]?=some row→row.length=n.size:=fun m row h=>(R1.append R2).row m row h
   have G5:∀(m:Nat)(row:List DT)(j:Nat)(u:DT),(rows++f)[m]?=some row→row[j]?=some u →
     (rows[m]?=some row∧m<rows.length)∨(f[m-rows.length]?=some row∧rows.length≤m):=by
    intro m row j u h1 h2;rcases Em m rows.length with q|q
    ·rw[EZ q]at h1;exact .inl ⟨h1,q⟩
    ·rw[EX q]at h1;exact .inr ⟨h1,q⟩
   have Hn:∀(m:Nat)(row:List DT)(j:Nat)(u:DT),(rows++f)[m]?=some row→row[j]?=some u→∃y,((ao c.toList (d.o+rows.length*n.size) l).toArray)[d.o+m*n.size+j]?=some y∧VT u y:=by
    intro m row j u h1 h2;have I6:j<n.size:=by
     have:=G4 m row h1;rcases Em j row.length with q|q
     ·omega
     ·rw[Ek q]at h2;cases h2
    simp only[F6];rcases G5 m row j u h1 h2 with⟨H,X⟩|⟨H,X⟩
    ·have Hd:=iD X I6;cases hH with
     |e=>simp at X
     |s _ _ _ _ _ _ c' e' f' J _ _ G8 _ =>rw[hb]at J;cases J;obtain⟨y,y1,y2⟩:=G8 m row j u H h2;refine⟨y,?_,y2⟩;rw[fz Hc (by omega)];simpa using y1
    ·obtain⟨y,y1,y2⟩:=R2.val _ row j u H h2;refine⟨y,?_,y2⟩;have e1:(m-rows.length)*n.size=m*n.size-rows.length*n.size:=Nat.sub_mul _ _ _;have e2:rows.length*n.size≤m*n.size:=Fj _ X;have Hd:m*n.size-rows.length*n.size+j<l.length:=by
      rcases Em ((m-rows.length)*n.size+j) l.length with p|p
      ·omega
      ·rw[Ek p]at y1;cases y1
     rw[cf Hc,Eu (by omega),Ej (by omega)];rw[show d.o+m*n.size+j-(d.o+rows.length*n.size)=(m-rows.length)*n.size+j by omega];exact y1
   have B:∀u:DT,d.b∉bl u→∀b∈bl u,b<w.heap.size→w'.heap[b]?=w.heap[b]?:=fun u L b J _=>f2 b (fun e=>L (e ▸ J))
   have M:∀(m:Nat)(row:List DT)(j:Nat)(u:DT),(rows++f)[m]?=some row→row[j]?=some u→Holds w' u∧OwnT w' u:=by
    intro m row j u h1 h2;rcases G5 m row j u h1 h2 with⟨H,X⟩|⟨H,X⟩
    ·have G6:=H0 m row j u H h2;refine⟨?_,(Hb m row j u H h2).frame (B u G6)⟩;cases hH with
     |e=>simp at X
     |s _ _ _ _ _ _ c' e' f' J _ _ G8 V=>exact(V m row j u H h2).frame (B u G6)
    ·have G6:=Z _ row j u H h2;exact⟨(Q _ row j u H h2).frame (B u G6),(U _ row j u H h2).frame (B u G6)⟩
   have H1:Holds w' (.s .own d n.size (rows++f)):= .s _ _ _ _ F hsp _ ec (lo,hi) f1 (by simpa using hroom) G4 Hn (fun m row j u h1 h2=>(M m row j u h1 h2).1);have H3:OwnT w' (.s .own d n.size (rows++f)):= .s _ _ _ F hsp _ ec lo hi f1 (by simpa using hroom) (by simp only[GB];rw[fy Hc];simpa using G9) Hm (fun m row j u h1 h2=>(M m row j u h1 h2).2);have Ho:VT (.s .own d n.size (rows++f)) (.slice d.addr (rows.length+f.length) d.cap):=by simp[VT]
   have He:∀b,(bl (.s .own d n.size (rows++f):DT)).count b≤az Pd b:=fun b=>by have:=O b;rw[bR,ED]at this ⊢;rw[Fm,ED, ←Fp];exact this
   have I2:=I1.pendWrite (P:=Pd) hB gx Ho H1 H3 rfl He;refine⟨_,w',r,?_⟩;refine I2.putGot (g:=false) (ts:=[.s .own d n.size (rows++f)]) (ys:=[.slice d.addr (rows.length+f.length) d.cap]) ⟨.one Ho,fun u L=>?_,fun u L _=>?_,fun u L=>?_,fun b=>?_⟩ (by simp[bd]) rfl (fun t' h=>by cases h;exact hd) rfl
   ·rw[Er]at L;subst L;exact H1
   ·rw[Er]at L;subst L;exact H3
   ·rw[Er]at L;subst L;trivial
   ·simp[az]
 ·
  have Y:(frD w).app d rows.length f.length N=⟨w.heap.size,0,grownCap w (rows.length+f.length) d.cap N,false,none⟩:=by simp only[frD];rw[Eu hroom]
  rw[Y];have S:=growslice_fits (need:=rows.length+f.length) (old:=d.cap) (bytes:=n.bytes) (by omega) G7;have Hp:(Builtin.firstCells i.size rows.length (.slice d.addr rows.length d.cap)).run P w.drew = .ok C.toArray w.drew:=by
   rcases c1 with⟨rfl,rfl⟩|⟨H,X,q3⟩
   ·cases K:d.addr with
    |none=>exact run_firstCells_none w.drew _ _ _ _
    |some ad=>exact run_firstCells_some w.drew i.size 0 ad 0 d.cap [] (by simp) (fun j u h=>by simp at h)
   ·have K:d.addr=some ⟨d.b,d.o,none⟩:=by rw[Dec.addr_none X,H];rfl
    rw[K];exact run_firstCells_some w.drew i.size rows.length _ _ _ C (by rw[g4];exact R1.len) (fun j u h=>by rw[Addr.add_lit];exact q3 j u h)
  have r:=run_append_grow_src (P:=P) w t t2 ty N i zv L g1 Hv d.addr rows.length d.cap C Hp (a.eval x) f.length l hS (by omega) (by omega) (by rw[g5];exact S);rw[←W]at r;have Hf:=grownCap_ge w (rows.length+f.length) d.cap N;generalize If:grownCap w (rows.length+f.length) d.cap N=gc at r Hf;have R:=R1.append R2;generalize Hq:(C++l).toArray++Builtin.zeroCells zv.cells (gc-(rows.length+f.length))=cells at r;have Hg:cells.size=gc*n.size:=by rw[←Hq,Array.size_append,size_zeroCells,Hw,GB,R.len, ←FC];congr 1;simp;omega
  have g:=(Grew.drew w).trans (Grew.alloc w.drew (.cells cells N));have H5:(w.drew.alloc (.cells cells N)).heap[w.heap.size]?=some (.cells cells N (0,0)):=by show(w.heap.push _)[w.heap.size]?=_;simp
  have Hh:∀(j:Nat)(u:Value),(C++l)[j]?=some u→cells[j]?=some u:=by
   intro j u h;have Hd:j<(C++l).length:=by
    rcases Em j (C++l).length with q|q
    ·exact q
    ·rw[Ek q]at h;cases h
   rw[←Hq,F8 (by simpa using Hd)];simpa using h
  have M:∀(m:Nat)(row:List DT)(j:Nat)(u:DT),(rows++f)[m]?=some row→row[j]?=some u→Holds (w.drew.alloc (.cells cells N)) u∧OwnT (w.drew.alloc (.cells cells N)) u:=by
   intro m row j u h1 h2;rcases Em m rows.length with q|q
   ·rw[EZ q]at h1;refine⟨?_,?_⟩
    ·cases hH with
     |e=>simp at q
     |s _ _ _ _ _ _ c' e' f' J _ _ G8 V=>exact(V m row j u h1 h2).frame fun b _ hb=>g.same b hb
    ·cases hO with
     |nil=>simp at q
     |s _ _ _ _ _ _ _ _ _ _ _ _ _ Hb=>exact(Hb m row j u h1 h2).frame fun b _ hb=>g.same b hb
   ·rw[EX q]at h1;exact⟨(Q _ row j u h1 h2).frame fun b _ hb=>g.same b hb,(U _ row j u h1 h2).frame fun b _ hb=>g.same b hb⟩
  have H1:Holds (w.drew.alloc (.cells cells N)) (.s .own ⟨w.heap.size,0,gc,false,none⟩ n.size (rows++f)):=by refine .s _ _ _ _ rfl rfl _ N (0,0) H5 (by simpa using Hf) R.row (fun m row j u h1 h2=>?_) (fun m row j u h1 h2=>(M m row j u h1 h2).1);obtain⟨y,y1,y2⟩:=R.val m row j u h1 h2;exact⟨y,by simpa using Hh _ _ y1,y2⟩
  have H3:OwnT (w.drew.alloc (.cells cells N)) (.s .own ⟨w.heap.size,0,gc,false,none⟩ n.size (rows++f)):=
   .s _ _ _ rfl rfl _ N 0 0 H5 (by simpa using Hf) (by simp[Hg]) (fun x _ _ h=>by omega) (fun m row j u h1 h2=>(M m row j u h1 h2).2)
  refine⟨_,_,r,I1.newRows (P:=Pd) g (by simp) (d:=⟨w.heap.size,0,gc,false,none⟩) ⟨rfl,rfl⟩ H1 H3 (fun b=>?_) hd (by simp[VT,Dec.addr])⟩;rw[Fm,ED];have:=O b;rw[bR,ED]at this;exact E7 (Nat.add_le_add_right (Nat.le_add_left _ _) _) this
section
variable  {δ β : Type}
def ci:List (List (T δ))→Option (List Int)|[]=>some []|[.v (.int .u8 n)]::r=>(ci r).map fun l=>n::l|_::_=>none
def gd (M:Mk δ β)(tab:Tab)(D:St δ β)(a dst:Nat)(x:Operand):Option (List (List (T δ))):=
 match tab.ti a,tab.ti dst,cellsCopy M D x with
 |some ⟨_,_,_,.slice e⟩,some ⟨_,_,_,.str⟩,some (false,[.s _ _ 1 rows])=>match tab.ti e with|some ⟨_,_,_,.int .u8⟩=>some rows|_=>none
 |_,_,_=>none
end
theorem oS:∀{rows:List (List DT)}{xs:List Int},ci rows=some xs→rows=xs.map fun n=>[.v (.int .u8 n)]
 |[],xs,h=>by cases h;rfl
 |r::rs,xs,h=>by
  unfold ci at h;split at h
  ·rename_i a;cases a
  ·rename_i n c a;cases a;rw[Ei]at h;obtain⟨l,b,rfl⟩:=h;rw[oS b];rfl
  ·cases h
theorem qA {P:Program}{tab:Tab}(ok:aK P tab){cx:Cx}{D:DSt}{a:Act}{w:World}(I:Inv cx D [] a.tmps w){c dst:Nat}{x:Operand}{rows:List (List DT)}{xs:List Int}
  (e:gd mkD tab D c dst x=some rows) (B:ci rows=some xs):(convert c dst (a.eval x)).run P w = .ok (.string (strOfNums xs)) w:=by
 unfold gd at e;split at e
 case h_2=>cases e
 rename_i _ _ _ q _ _ _ k d r hs hd C;split at e
 case h_2=>cases e
 rename_i F;cases e;obtain⟨ys,G,hv⟩:=I.cellsCopy C;simp only[bd,EE,E3]at hv;subst hv;have s:=cU (Tab.ok ok hs) rfl;have f:=mb (Tab.ok ok hd) rfl;have l:=qt (Tab.ok ok F) rfl;have H:VT (.s k d 1 rows) (a.eval x):=G.v.2 0 _ _ rfl rfl;have J:=G.holds _ (EN _);have u:=oS B;obtain⟨cs,R,Q,K⟩:=J.cells (by omega);have g:rows.length=xs.length:=by rw[u];simp
 have m:a.eval x = .slice d.addr rows.length d.cap:=H;rw[m];rcases K with⟨z,S⟩|⟨L,M,N⟩
 ·have t:xs=[]:=Fh.1 (by rw[←g,z];rfl);subst t;rw[z];cases n:d.addr with
  |none=>exact run_convert_bytes_nil w c q s l 0 d.cap dst f
  |some ad =>
   have hsp:(convert c dst (.slice (some ad) 0 d.cap)).run P w = .ok (.string (strOfNums [])) w:=by obtain⟨b,o,sp⟩:=ad;rw[run_convert_bytes_string w c dst q _ 0 d.cap s l f];rw[run_bytesToString w ⟨b,o,sp⟩ 0 d.cap [] (run_loadCells_list w ⟨b,o,sp⟩ [] (fun j v h=>by simp at h))];rfl
   exact hsp
 ·have n:d.addr=some ⟨d.b,d.o,none⟩:=by rw[Dec.addr_none M,L];rfl
  rw[n];refine run_convert_bytes_arg w c q s l d.b d.o rows.length d.cap xs g.symm (fun i hi=>?_) dst f;have p:rows[i]?=some [.v (.int .u8 (xs.getD i 0))]:=by rw[u,Et,List.getD_eq_getElem?_getD,El (by omega)];rfl
  obtain⟨y,A,O⟩:=R.val i _ 0 _ p rfl;rw[show y=_ from O.1]at A;have:=N (i*1+0) _ A;rw[show d.o+(i*1+0)=d.o+i by omega]at this;exact this
section
variable  {δ β : Type}
def ed (s:GM):List (List (T δ)):=s.data.toList.map fun b=>[.v (.int .u8 (b.toNat:Int))]
def dh (M:Mk δ β)(F:gq δ β)(tab:Tab)(D:St δ β)(dst:Option Nat)(a t:Nat)(x:Operand):Option (St δ β):=
 match tab.ti a,tab.ti t,dst,opd M.nil D x with
 |some ⟨_,_,_,.str⟩,some ⟨_,_,_,.slice e⟩,some d,some (.one (.v (.string s)))=>
  match tab.ti e with
  |some ⟨1,_,_,.int .u8⟩=>if d<D.length then some (aE D (some d) (.one (.s .own (F.str s.size e) 1 (ed s))))else none
  |_=>none
 |_,_,_,_=>none
end
theorem qU {P:Program}{tab:Tab}(ok:aK P tab){cx:Cx}{D D':DSt}{a:Act}{w:World}(I:Inv cx D [] a.tmps w){dst:Option Nat}{v t:Nat}{x:Operand}
  (e:dh mkD (frD w) tab D dst v t x=some D'):∃y w',(convert v t (a.eval x)).run P w = .ok y w'∧Inv cx D' [] (a.put dst y).tmps w':=by
 unfold dh at e;split at e
 case h_2=>cases e
 rename_i _ _ _ _ _ _ l d s hs H J;split at e
 case h_2=>cases e
 rename_i K;split at e
 case isFalse=>cases e
 rename_i hd;cases e;have L:=mb (Tab.ok ok hs) rfl;have B:=cU (Tab.ok ok H) rfl;have C:=qt (Tab.ok ok K) rfl;have F:a.eval x = .string s:=(I.opd J).val.1;have f:=run_bytes_of_string (P:=P) w v t l s L B C;rw[←F]at f;have z:=grownCap_ge w s.size 0 l;have M:(frD w).str s.size l=⟨w.heap.size,0,grownCap w s.size 0 l,false,none⟩:=rfl;rw[M];generalize grownCap w s.size 0 l=p at f z;have m:(bytesRow s p).size=p:=by unfold bytesRow;have:s.data.size=s.size:=rfl;simp[this];omega
 have A:∀j (G:j<s.data.size),(bytesRow s p)[j]?=some (.int .u8 (s.data[j].toNat:Int)):=fun j G=>bytesRow_at s p j G
 generalize bytesRow s p=cells at f m A;have g:=(Grew.drew w).trans (Grew.alloc w.drew (.cells cells l (cells.size,cells.size+1)));have r:(w.drew.alloc (.cells cells l (cells.size,cells.size+1))).heap[w.heap.size]?=some (.cells cells l (cells.size,cells.size+1)):=by show(w.heap.push _)[w.heap.size]?=_;simp
 have c:∀(i:Nat)(row:List DT),(ed s:List (List DT))[i]?=some row→∃h:i<s.data.size,row=[.v (.int .u8 (s.data[i].toNat:Int))]:=by
  intro i row h;unfold ed at h;rw[Et,Ei]at h;obtain⟨b,n,rfl⟩:=h;have hi:i<s.data.size:=by
   rcases Em i s.data.toList.length with q|q
   ·simpa using q
   ·rw[Ek q]at n;cases n
  refine⟨hi,?_⟩;rw[El (by simpa using hi)]at n;cases n;simp
 have o:(ed s:List (List DT)).length=s.size:=by unfold ed;simp
 have N:Holds (w.drew.alloc (.cells cells l (cells.size,cells.size+1))) (.s .own ⟨w.heap.size,0,p,false,none⟩ 1 (ed s)):=by
  refine .s _ _ _ _ rfl rfl _ l _ r (by rw[o];exact z) (fun i row h=>?_) (fun i row j u n k=>?_) (fun i row j u n k=>?_)
  ·obtain⟨_,rfl⟩:=c i row h;rfl
  ·obtain⟨hi,rfl⟩:=c i row n;cases j with
   |zero =>simp only[FN,EY]at k;subst k;exact⟨_,by simpa using A i hi,rfl,rfl⟩
   |succ j=>simp at k
  ·obtain⟨hi,rfl⟩:=c i row n;cases j with
   |zero=>simp only[FN,EY]at k;subst k;exact .v _
   |succ j=>simp at k
 have O:OwnT (w.drew.alloc (.cells cells l (cells.size,cells.size+1))) (.s .own ⟨w.heap.size,0,p,false,none⟩ 1 (ed s)):=by
  refine .s _ _ _ rfl rfl _ l _ _ r (by rw[o];exact z) (by simp[m]) (fun q n k h=>by simp at k;omega) (fun i row j u n k=>?_);obtain⟨hi,rfl⟩:=c i row n;cases j with
  |zero=>simp only[FN,EY]at k;subst k;exact .v _
  |succ j=>simp at k
 refine⟨_,_,f,I.newRows (P:=[]) g (by simp) (d:=⟨w.heap.size,0,p,false,none⟩) ⟨rfl,rfl⟩ N O (fun b=>?_) hd (by simp[VT,Dec.addr,o])⟩;have:(ed s:List (List DT)).flatMap (fun x=>x.flatMap Am.bl)=[]:=by rw[Ey];intro row Q;obtain⟨i,hi⟩:=En Q;obtain⟨_,rfl⟩:=c i row hi;rfl
 rw[this];simp
section
variable  {δ β : Type}
def gH (D:St δ β)(x:Operand)(dst:Option Nat):Option (St δ β):=
 match x,dst with
 | .tmp t,some d =>
  match D[t]? with
  |some (.tup rs)=>if d<D.length∧(rs.all fun r=>r.2.all T.noLent)=true then some (aE (D.set t .any) (some d) (.tup rs))else none
  |_=>none
 |_,_=>none
end
theorem ry:∀(us:List DT),(∀u∈us,∃v,VT u v)→∃a:List Value,us.length=a.length∧∀p∈us.zip a,p.1∈us∧VT p.1 p.2
 |[],_=>⟨[],rfl,fun p hp=>by cases hp⟩
 |u::us,h=>by
  obtain⟨v,hv⟩:=h u (by simp);obtain⟨a,c,b⟩:=ry us fun u d=>h u (by simp[d])
  refine⟨v::a,by simp[c],fun p hp=>?_⟩;rw[List.zip_cons_cons]at hp;rcases ER.1 hp with rfl|hp
  ·exact⟨by simp,hv⟩
  ·exact⟨by simp[(b p hp).1],(b p hp).2⟩
theorem sn {cx:Cx}{D D':DSt}{a:Act}{w:World}(I:Inv cx D [] a.tmps w){dst:Option Nat}{x:Operand}(e:gH D x dst=some D'):Inv cx D' [] (a.put dst (a.eval x)).tmps w:=by
 unfold gH at e;split at e
 case h_2=>cases e
 rename_i t d;split at e
 case h_2=>cases e
 rename_i rs hD;split at e
 case isFalse=>cases e
 rename_i hc;cases e;obtain⟨hd,C⟩:=hc;have g:=Ef hD;have n:=I.val t _ hD;obtain⟨N,R,o,f⟩:=n;have F:=I.mem _ g;have l:∀u∈af (.tup rs:DSl),aS cx D u:=I.kind _ g;have O:∀u∈af (.tup rs:DSl),u.noLent=true:=by intro u c;obtain⟨r,G,c⟩:=Eq.1 c;exact Eo.1 (Eo.1 C r G) u c
 have hv:∀u∈af (.tup rs:DSl),∃v,VT u v:=by
  intro u c;obtain⟨r,G,c⟩:=Eq.1 c;obtain⟨j,H⟩:=En G;have S:j<rs.length:=by
   rcases Em j rs.length with q|q
   ·exact q
   ·rw[Ek q]at H;cases H
  have m:=f j r N.toList[j] H (El (by omega));unfold VPart at m;split at m
  ·obtain⟨cs,i,B,U⟩:=m;obtain⟨k,l⟩:=En c;have V:k<r.2.length:=by
    rcases Em k r.2.length with q|q
    ·exact q
    ·rw[Ek q]at l;cases l
   exact⟨_,U k u _ l (El (by omega))⟩
  ·obtain⟨t',i,B⟩:=m;rw[i,Er]at c;subst c;exact⟨_,B⟩
 obtain⟨J,W,hz⟩:=ry _ hv;have y:=ig _ J W;have hb:∀b,((af (.tup rs:DSl)).flatMap ownR).count b=(ownBl (.tup rs:DSl)).count b:=by intro b;show((rs.flatMap (·.2)).flatMap ownR).count b=(rs.flatMap fun r=>r.2.flatMap ownR).count b;rw[List.flatMap_assoc]
 have X:=I.swap (Q:=(af (.tup rs:DSl)).zip J) (s := .any) hD (fun s' A=>by obtain⟨u,c⟩:=En A;exact I.tup_refs hD (I.val u s' c) (I.kind s' A)) (fun h=>h) trivial
  ⟨fun u c=>(by cases c),fun u c=>(by cases c),trivial⟩ (fun u c=>(by cases c))
  (fun p m=>by
   obtain⟨i,B⟩:=hz p m;refine⟨B,F.1 _ i,F.2.1 _ i,fun Y x K=>?_⟩;have L:=l _ i;have M:=O _ i;generalize p.1=u at *;cases u with
   |v x=>simp[bl]at K
   |any=>simp[bl]at K
   |s k d z r=>cases k<;>first|exact L x K|(cases M;done)|(cases Y;done))
  (fun b=>by rw[y b,hb b,bw];show([]:List Nat).count b+_≤_;simp)
 exact Inv.put (P:=(af (.tup rs:DSl)).zip J) (Q:=[]) (by rw[EH];exact X) (by simpa using hd) (s := .tup rs) ⟨N,R,o,f⟩ F (fun u c=>iF (O u c) (l u c)) (fun b=>by rw[y b,hb b];exact EQ _)
section
variable  {δ β : Type}
def ey (M:Mk δ β)(F:gq δ β)(tab:Tab)(D:St δ β)(dst:Option Nat)(t len:Nat)(a:List (Nat×Operand)):Option (St δ β):=
 match tab.ti t,dst,a with
 |some ⟨_,_,_,.slice e⟩,some d,[(0,x)]=>
  match tab.ti e,cellsTake M D x with
  |some b,some (_,us,D1)=>
   if len=1∧d<D1.length∧b.size≠0∧b.zero.length=b.size∧b.size≤2 ^ 24∧us.length=b.size∧us.all (fun u=>u.isOwn ||u.flat)=true then
    some (aE D1 (some d) (.one (.s .own (F.row 1) b.size [us])))
   else none
  |_,_=>none
 |_,_,_=>none
def iu (M:Mk δ β)(tab:Tab)(D:St δ β)(t:Nat)(p:Operand)(z:Nat):Option (St δ β):=
 match tab.ti t with
 |some ti=>if ti.size=1 then(opd M.nil D p).bind fun p=>dH D p [.s .own M.nil z []]else none
 |none=>none
end
theorem vl {w:World}{u:DT}(h:(u.isOwn ||u.flat)=true)(b:u.isOwn=true→OwnT w u):OwnT w u∧ownR u=bl u:=by
 cases a:u.isOwn with
 |true=>exact⟨b a,by simp[ownR,a]⟩
 |false =>rw[a,Bool.false_or]at h;exact⟨(tj h).1,by simp[ownR,a,vU h]⟩
theorem oA {P:Program}{tab:Tab}(ok:aK P tab){cx:Cx}{D D':DSt}{a:Act}{w:World}(I:Inv cx D [] a.tmps w){dst:Option Nat}{t len:Nat}{f:Array (Nat×Operand)}
  (e:ey mkD (frD w) tab D dst t len f.toList=some D'):∃y w',(Instr.buildSlice t len (f.map fun(i,x)=>(i,a.eval x))).run P w = .ok y w'∧Inv cx D' [] (a.put dst y).tmps w':=by
 unfold ey at e;split at e
 case h_2=>cases e
 rename_i sz Z ze l d x K m;split at e
 case h_2=>cases e
 rename_i c gg us D1 A hx;split at e
 case isFalse=>cases e
 rename_i hc;cases e;obtain⟨rfl,hd,L,M,Q,B,C⟩:=hc;obtain⟨ys,Pd,I1,G,hv⟩:=I.cellsTake hx;have s:=cU (Tab.ok ok K) rfl;obtain⟨z,g1,S,g3⟩:=mc (Tab.ok ok A) w;have hs:=fU (Tab.ok ok A) w;have U:=ez (P:=P) (t:=l) (w:=w) (cx:=cx) (D:=D) (ys:=z.cells.toList) g3;rw[←S]at U;have F:z.cells.size=c.size:=by rw[←M,S];simp[b7]
 have V:=RowsAre.init U.v (by omega) 1;rw[F]at V;have n:=eI G hv;obtain⟨N,R⟩:=V.set (i:=0) (by simp) G.v B;have e2:=G.v.1;have r:(List.replicate 1 (c.zero.map (T.inj nilD))).set 0 us=[us]:=rfl;rw[r]at R;have f1:Instr.fill (fun i=>some (i*c.size,c.size)) ((Array.range (1*c.size)).map fun i=>z.cells[i % c.size]!) [(0,a.eval x)]=some (ao ((Array.range (1*c.size)).map fun i=>z.cells[i % c.size]!).toList (0*c.size) ys).toArray:=by simp only[Instr.fill,n];rw[Eu (by simp;omega)];have h3:=cP ys.toArray (0*c.size) ((Array.range (1*c.size)).map fun i=>z.cells[i % c.size]!) (by simpa using N);rw[h3]
 generalize W:ao ((Array.range (1*c.size)).map fun i=>z.cells[i % c.size]!).toList (0*c.size) ys=k at *;have H:(Instr.buildSlice t 1 (f.map fun(i,x)=>(i,a.eval x))).run P w = .ok (.slice (some ⟨w.heap.size,0,none⟩) 1 1) (w.alloc (.cells k.toArray l)):=by
  have O:Instr.fill (fun i=>some (i*c.size,c.size)) ((Array.range (1*c.size)).map fun i=>z.cells[i % c.size]!) (f.toList.map fun p=>(p.1,a.eval p.2))=some k.toArray:=by rw[m];exact f1
  simp only[Instr.buildSlice,run_underlying s,Sem.run_bind,Result.andThen_ok,hs];rw[Eu (by omega)];simp[g1,F];have J:=O;rw[Nat.one_mul]at J;simp[J,L,eC]
 have g:=Grew.alloc w (.cells k.toArray l);have o:(w.alloc (.cells k.toArray l)).heap[w.heap.size]?=some (.cells k.toArray l (0,0)):=by show(w.heap.push _)[w.heap.size]?=_;simp
 have q:∀(i:Nat)(row:List DT)(j:Nat)(u:DT),[us][i]?=some row→row[j]?=some u→u∈us:=fun i row j u hi hj=>by
  have:row=us:=by have:=Ef hi;simpa using this
  subst this;exact Ef hj
 have X:∀u∈us,OwnT w u∧ownR u=bl u:=fun u s=>vl (Eo.1 C u s) (G.own u s)
 have hH:Holds (w.alloc (.cells k.toArray l)) (.s .own ((frD w).row 1) c.size [us]):=by refine .s _ _ _ _ rfl rfl _ l (0,0) o (by simp[frD]) R.row (fun i row j t hi hj=>?_) (fun i row j t hi hj=>(G.holds t (q i row j t hi hj)).frame fun b _ hb=>g.same b hb);obtain⟨y,y1,y2⟩:=R.val i row j t hi hj;exact⟨y,by simpa[frD]using y1,y2⟩
 have hO:OwnT (w.alloc (.cells k.toArray l)) (.s .own ((frD w).row 1) c.size [us]):=by refine .s _ _ _ rfl rfl _ l 0 0 o (by simp[frD]) (by simp[frD,R.len]) (fun x _ _ h=>by omega) (fun i row j t hi hj=>?_);exact((X t (q i row j t hi hj)).1).frame fun b _ hb=>g.same b hb
 refine⟨_,_,H,I1.newRows (P:=Pd) g (by simp) (d:=(frD w).row 1) ⟨rfl,rfl⟩ hH hO (fun b=>?_) hd (by simp[VT,Dec.addr,frD])⟩;have Y:=G.cnt b;have h2:us.flatMap ownR=us.flatMap bl:=by rw[Gh,Gh,EM fun u s=>(X u s).2]
 rw[h2]at Y;simpa using Y
theorem qT {P:Program}{tab:Tab}(ok:aK P tab){cx:Cx}{D D':DSt}{a:Act}{w:World}(I:Inv cx D [] a.tmps w){t:Nat}{p:Operand}{z:Nat}
  (e:iu mkD tab D t p z=some D'):∃w',(Instr.storeAt t (a.eval p) (.slice none 0 0)).run P w = .ok () w'∧Inv cx D' [] a.tmps w':=by
 unfold iu at e;split at e
 case h_2=>cases e
 rename_i ti d;split at e
 case isFalse=>cases e
 rename_i f;rw[Eh]at e;obtain⟨i,h,e⟩:=e;refine rE (g:=false) ok I d (ys:=[.slice none 0 0]) ⟨.one ?_,fun u c=>?_,fun u c _=>?_,fun u c=>?_,fun b=>?_⟩ (by simp[bd]) (by simp[f]) h e
 ·simp[VT,Dec.addr,mkD,nilD]
 ·rw[Er]at c;subst c;exact .e _ _ _
 ·rw[Er]at c;subst c;exact .nil _ _ rfl rfl rfl
 ·rw[Er]at c;subst c;trivial
 ·simp[ownR,T.isOwn,bR,mkD,nilD]
section
variable  {δ β : Type}
def iK (M:Mk δ β)(tab:Tab)(D:St δ β)(dst:Option Nat)(t:Nat)(a:List (Nat×Operand)):Option (St δ β):=
 match tab.ti t,tab.pl t,a,dst with
 |some ti,some pl,(i,x)::r,some d =>
  match pl[i]?,cellsTake M D x with
  |some (off,size),some (_,us,D1)=>
   if us.length=size∧off+us.length≤(ti.zero.map (T.inj M.nil)).length∧d<D1.length then
    (bm M D1 pl r (ao (ti.zero.map (T.inj M.nil)) off us)).map fun ts=>aE D1 (some d) (.agg ts)
   else none
  |_,_=>none
 |_,_,_,_=>none
end
theorem Got.spliceP {cx:Cx}{D:DSt}{w:World}{P Q:List (DT×Value)}{ts us:List DT}{xs ys:List Value}(G:Got cx D w P ts xs)(H:Got cx D w Q us ys){off:Nat}(c:off+us.length≤ts.length):
  Got cx D w (P++Q) (ao ts off us) (ao xs off ys):=by
 refine⟨G.v.splice H.v c,fun t a=>?_,fun t a=>?_,fun t a=>?_,fun b=>?_⟩
 ·rcases cR a with h|h
  ·exact G.holds t h
  ·exact H.holds t h
 ·rcases cR a with h|h
  ·exact G.own t h
  ·exact H.own t h
 ·rcases cR a with h|h
  ·exact G.kind t h
  ·exact H.kind t h
 ·have d:=iL ownR ts us off b;have e:=G.cnt b;have f:=H.cnt b;rw[db];omega
theorem eG {cx:Cx}{D:DSt}{h P:List (DT×Value)}{a:Act}{w:World}(I:Inv cx D h a.tmps w)(pl:List (Nat×Nat)):∀(b:List (Nat×Operand)){ts ts':List DT}{xs:List Value},Got cx D w P ts xs →
  bm mkD D pl b ts=some ts'→∃ys,Instr.fill (pl.toArray[·]?) xs.toArray (b.map fun p=>(p.1,a.eval p.2))=some ys.toArray∧Got cx D w P ts' ys
 |[],ts,ts',xs,G,e=>by cases e;exact⟨xs,rfl,G⟩
 |(i,x)::r,ts,ts',xs,G,e=>by
  simp only[bm]at e;split at e
  case h_2=>cases e
  rename_i off size g us j hc;split at e
  case isFalse=>cases e
  rename_i k;obtain⟨ys,H,hv⟩:=I.cellsCopy hc;have c:=eI H hv;have f:=G.spliceP H k.2;rw[EH]at f;obtain⟨l,m,n⟩:=eG I pl r f e;refine⟨l,?_,n⟩;have o:=G.v.1;have q:=H.v.1;have d:pl.toArray[i]?=some (off,size):=by simpa using j
  simp only[EB,Instr.fill,d,c];rw[Eu (by simp;omega)];rw[cP ys.toArray off xs.toArray (by simp;omega)];simpa using m
theorem sO {P:Program}{tab:Tab}(ok:aK P tab){cx:Cx}{D D':DSt}{a:Act}{w:World}(I:Inv cx D [] a.tmps w){dst:Option Nat}{t:Nat}{b:Array (Nat×Operand)}(e:iK mkD tab D dst t b.toList=some D'):
  ∃y,(Instr.build t (b.map fun(i,x)=>(i,a.eval x))).run P w = .ok y w∧Inv cx D' [] (a.put dst y).tmps w:=by
 unfold iK at e;split at e
 case h_2=>cases e
 rename_i ti pl i x r d m n c;split at e
 case h_2=>cases e
 rename_i off size V us D1 B C;split at e
 case isFalse=>cases e
 rename_i hc;rw[Ei]at e;obtain⟨ts,F,rfl⟩:=e;obtain⟨J,l,hd⟩:=hc;obtain⟨ys,W,q,H,hv⟩:=I.cellsTake C;obtain⟨X,Y,z,K,Z,L,g4,g5,M,g7,N⟩:=cW (Tab.ok ok m);have G:=ez (P:=P) (t:=t) (w:=w) (cx:=cx) (D:=D1) (ys:=z.cells.toList) N;rw[←M]at G;have u:=G.spliceP H l;rw[EL]at u;obtain⟨A,O,Q⟩:=eG q pl r u F;have f:=eI H hv;have k:Instr.fill (pl.toArray[·]?) z.cells.toList.toArray (b.toList.map fun p=>(p.1,a.eval p.2))=some A.toArray:=by
  rw[c];have R:z.cells.toList.length=z.cells.size:=by simp
  have S:(ti.zero.map (T.inj mkD.nil)).length=z.cells.size:=by rw[←R];exact G.v.1
  have e2:=H.v.1;rw[S]at l;have o:pl.toArray[i]?=some (off,size):=by simpa using B
  simp only[EB,Instr.fill,o,f];rw[Eu (by simp;omega)];rw[cP ys.toArray off z.cells.toList.toArray (by simp;omega)];simpa using O
 refine⟨.agg A.toArray,run_build w t _ _ ?_,?_⟩
 ·have j:=Tab.okPl ok n;unfold il at j;split at j
  ·rename_i fs U;unfold Program.built;rw[K,U];simp only[L,j];simpa using k
  ·cases j
 ·exact q.putGot (g:=true) (s := .agg ts) Q (by simp[bd]) rfl (fun t' h=>by cases h;exact hd) rfl
section
variable  {δ β : Type}
def d4 (D:St δ β):Operand→Bool
 | .tmp t=>match D[t]? with|some s=>s.isHome|none=>false
 |_=>false
def kr (M:Mk δ β)(tab:Tab)(D:St δ β)(dst:Option Nat)(t:Nat)(a:List (Nat×Operand)):Option (St δ β):=
 match tab.ti t,tab.pl t,a.dropWhile (fun p => !d4 D p.2),dst with
 |some ti,some pl,(i,x)::r,some d =>
  match pl[i]?,cellsTake M D x,bm M D pl (a.takeWhile (fun p => !d4 D p.2)) (ti.zero.map (T.inj M.nil))with
  |some (off,size),some (_,us,D1),some b =>
   if us.length=size∧off+us.length≤b.length∧d<D1.length∧b.all T.noLent=true then
    (bm M D1 pl r (ao b off us)).map fun ts=>aE D1 (some d) (.agg ts)
   else none
  |_,_,_=>none
 |_,_,_,_=>none
def gN (M:Mk δ β)(pl:List (Nat×Nat)):List (Nat×Operand)→St δ β→List (T δ)→Option (List (T δ)×St δ β)
 |[],D,ts=>some (ts,D)
 |(i,x)::r,D,ts =>
  match pl[i]? with
  |some (off,size)=>
   if d4 D x=true then
    match cellsTake M D x with
    |some (_,us,D1)=>if us.length=size∧off+us.length≤ts.length∧us.all T.noLent=true then gN M pl r D1 (ao ts off us)else none
    |none=>none
   else
    match cellsCopy M D x with
    |some (_,us)=>if us.length=size∧off+us.length≤ts.length∧us.all T.noLent=true then gN M pl r D (ao ts off us)else none
    |none=>none
  |none=>none
def lO (M:Mk δ β)(tab:Tab)(D:St δ β)(dst:Option Nat)(t:Nat)(a:List (Nat×Operand)):Option (St δ β):=
 match tab.ti t,tab.pl t,dst with
 |some ti,some pl,some d =>
  if(ti.zero.map (T.inj M.nil)).all T.noLent=true then
   match gN M pl a D (ti.zero.map (T.inj M.nil))with
   |some (ts,D')=>if d<D'.length then some (aE D' (some d) (.agg ts))else none
   |none=>none
  else none
 |_,_,_=>none
def oz (D:St δ β)(a:List (Nat×Operand)):Bool:=decide (2≤(a.filter fun p=>d4 D p.2).length)
def iw (M:Mk δ β)(tab:Tab)(D:St δ β)(dst:Option Nat)(t:Nat)(a:List (Nat×Operand)):Option (St δ β):=
 if oz D a=true then lO M tab D dst t a
 else match iK M tab D dst t a with
 |some r=>some r
 |none=>kr M tab D dst t a
theorem sN {M:Mk δ β}{tab:Tab}{D r:St δ β}{dst:Option Nat}{t:Nat}{a:List (Nat×Operand)}(b:oz D a=false)(h:iK M tab D dst t a=some r):iw M tab D dst t a=some r:=by unfold iw;rw[Eu (by rw[b];exact E5),h]
end
theorem oL {pl:Nat→Option (Nat×Nat)}:∀(b a:List (Nat×Value))(xs ys:Array Value),Instr.fill pl xs b=some ys→Instr.fill pl xs (b++a)=Instr.fill pl ys a
 |[],a,xs,ys,h=>by simp only[Instr.fill]at h;cases h;rfl
 |(i,v)::b,a,xs,ys,h=>by
  rw[List.cons_append];unfold Instr.fill at h
  conv=>lhs;unfold Instr.fill
  cases c:pl i with
  |none=>rw[c]at h;cases h
  |some os =>
   obtain⟨off,size⟩:=os;rw[c]at h;simp only at h ⊢;split at h
   ·cases h
   ·rename_i hc;rw[Eu hc];exact oL b a _ ys h
theorem rK {P:Program}{tab:Tab}(ok:aK P tab){cx:Cx}{D D':DSt}{a:Act}{w:World}(I:Inv cx D [] a.tmps w){dst:Option Nat}{t:Nat}{b:Array (Nat×Operand)}(e:kr mkD tab D dst t b.toList=some D'):
  ∃y,(Instr.build t (b.map fun(i,x)=>(i,a.eval x))).run P w = .ok y w∧Inv cx D' [] (a.put dst y).tmps w:=by
 unfold kr at e;split at e
 case h_2=>cases e
 rename_i ti pl i x r d u A c;split at e
 case h_2=>cases e
 rename_i off size gg us D1 B O Q m;split at e
 case isFalse=>cases e
 rename_i hc;rw[Ei]at e;obtain⟨ts,R,rfl⟩:=e;obtain⟨S,n,hd,C⟩:=hc;obtain⟨ys,Pd,K,H,hv⟩:=I.cellsTake Q;obtain⟨i',dd,z,U,g2,V,g4,g5,W,g7,X⟩:=cW (Tab.ok ok u);have G:=ez (P:=P) (t:=t) (w:=w) (cx:=cx) (D:=D) (ys:=z.cells.toList) X;rw[←W]at G;obtain⟨o,F,l⟩:=eG I pl _ G m;have Y:Got cx D1 w [] B o:=⟨l.v,l.holds,l.own,fun t L=>iF (Eo.1 C t L) (l.kind t L),l.cnt⟩
 have M:=Y.spliceP H n;rw[EL]at M;obtain⟨N,Z,H2⟩:=eG K pl r M R;have f:=eI H hv;have q:b.toList=b.toList.takeWhile (fun p => !d4 D p.2)++(i,x)::r:=by rw[←c];exact(List.takeWhile_append_dropWhile).symm
 have k:Instr.fill (pl.toArray[·]?) z.cells.toList.toArray (b.toList.map fun p=>(p.1,a.eval p.2))=some N.toArray:=by
  rw[q,FH,oL _ _ _ _ F];have e1:=l.v.1;have e2:=H.v.1;rw[e1]at n;have J:pl.toArray[i]?=some (off,size):=by simpa using O
  simp only[EB,Instr.fill,J,f];rw[Eu (by simp;omega)];rw[cP ys.toArray off o.toArray (by simp;omega)];simpa using Z
 refine⟨.agg N.toArray,run_build w t _ _ ?_,?_⟩
 ·have j:=Tab.okPl ok A;unfold il at j;split at j
  ·rename_i fs hu;unfold Program.built;rw[U,hu];simp only[V,j];simpa using k
  ·cases j
 ·exact K.putGot (g:=true) (s := .agg ts) H2 (by simp[bd]) rfl (fun t' h=>by cases h;exact hd) rfl
theorem nm {cx:Cx}{a:Act}{w:World}(pl:List (Nat×Nat)):∀(c:List (Nat×Operand)){D D':DSt}{P:List (DT×Value)}{ts ts':List DT}{xs:List Value},Inv cx D P a.tmps w→Got cx D w P ts xs→(∀t∈ts,t.noLent=true) →
  gN mkD pl c D ts=some (ts',D')→∃P' ys,Inv cx D' P' a.tmps w∧Got cx D' w P' ts' ys∧Instr.fill (pl.toArray[·]?) xs.toArray (c.map fun p=>(p.1,a.eval p.2))=some ys.toArray
 |[],D,D',P,ts,ts',xs,I,G,m,e=>by cases e;exact⟨P,xs,I,G,rfl⟩
 |(i,x)::r,D,D',P,ts,ts',xs,I,G,m,e=>by
  have h:∀{off size:Nat}{g:Bool}{us:List DT}{D1:DSt}{Q:List (DT×Value)}{ys:List Value},pl[i]?=some (off,size)→Inv cx D1 (Q++P) a.tmps w→Got cx D1 w Q us ys→bd g (a.eval x) ys →
    us.length=size∧off+us.length≤ts.length∧us.all T.noLent=true→gN mkD pl r D1 (ao ts off us)=some (ts',D') →
    ∃P' ys,Inv cx D' P' a.tmps w∧Got cx D' w P' ts' ys∧Instr.fill (pl.toArray[·]?) xs.toArray (((i,x)::r).map fun p=>(p.1,a.eval p.2))=some ys.toArray:=fun {off size g us D1 Q ys} k n H hv f e=>by
   have d:=eI H hv;have y:Got cx D1 w P ts xs:=⟨G.v,G.holds,G.own,fun t l=>iF (m t l) (G.kind t l),G.cnt⟩
   have j:=y.spliceP H f.2.1;have z:Got cx D1 w (Q++P) (ao ts off us) (ao xs off ys):=⟨j.v,j.holds,j.own,j.kind,fun b=>by have:=j.cnt b;rw[db]at this ⊢;omega⟩
   have o:∀t∈ao ts off us,t.noLent=true:=fun t l=>(cR l).elim (m t) fun q=>Eo.1 f.2.2 t q
   obtain⟨P',A,B,C,F⟩:=nm pl r n z o e;refine⟨P',A,B,C,?_⟩;have J:=G.v.1;have K:=H.v.1;have s:pl.toArray[i]?=some (off,size):=by simpa using k
   simp only[EB,Instr.fill,s,d];rw[Eu (by simp;omega)];rw[cP ys.toArray off xs.toArray (by simp;omega)];simpa using F
  simp only[gN]at e;split at e
  case h_2=>cases e
  rename_i off size k;split at e
  ·split at e
   case h_2=>cases e
   rename_i g us D1 u;split at e
   case isFalse=>cases e
   rename_i f;obtain⟨ys,Q,n,H,hv⟩:=I.cellsTakeP u;exact h k n H hv f e
  ·split at e
   case h_2=>cases e
   rename_i g us u;split at e
   case isFalse=>cases e
   rename_i f;obtain⟨ys,H,hv⟩:=I.cellsCopy u;exact h (Q:=[]) k I H hv f e
theorem sM {P:Program}{tab:Tab}(ok:aK P tab){cx:Cx}{D D':DSt}{a:Act}{w:World}(I:Inv cx D [] a.tmps w){dst:Option Nat}{t:Nat}{b:Array (Nat×Operand)}(e:lO mkD tab D dst t b.toList=some D'):
  ∃y,(Instr.build t (b.map fun(i,x)=>(i,a.eval x))).run P w = .ok y w∧Inv cx D' [] (a.put dst y).tmps w:=by
 unfold lO at e;split at e
 case h_2=>cases e
 rename_i ti pl d j k;split at e
 case isFalse=>cases e
 rename_i l;split at e
 case h_2=>cases e
 rename_i ts D1 n;split at e
 case isFalse=>cases e
 rename_i hd;cases e;obtain⟨H,J,z,o,K,q,L,M,r,N,u⟩:=cW (Tab.ok ok j);have G:=ez (P:=P) (t:=t) (w:=w) (cx:=cx) (D:=D) (ys:=z.cells.toList) u;rw[←r]at G;obtain⟨P',m,v,A,B⟩:=nm pl b.toList I G (fun t C=>Eo.1 l t C) n;have f:Instr.fill (pl.toArray[·]?) z.cells.toList.toArray (b.toList.map fun p=>(p.1,a.eval p.2))=some m.toArray:=B;refine⟨.agg m.toArray,run_build w t _ _ ?_,?_⟩
 ·have c:=Tab.okPl ok k;unfold il at c;split at c
  ·rename_i fs F;unfold Program.built;rw[o,F];simp only[q,c];simpa using f
  ·cases c
 ·exact v.putGot (g:=true) (s := .agg ts) A (by simp[bd]) rfl (fun t' h=>by cases h;exact hd) rfl
theorem rL {P:Program}{tab:Tab}(ok:aK P tab){cx:Cx}{D D':DSt}{a:Act}{w:World}(I:Inv cx D [] a.tmps w){dst:Option Nat}{t:Nat}{b:Array (Nat×Operand)}(e:iw mkD tab D dst t b.toList=some D'):
  ∃y,(Instr.build t (b.map fun(i,x)=>(i,a.eval x))).run P w = .ok y w∧Inv cx D' [] (a.put dst y).tmps w:=by
 unfold iw at e;split at e
 ·exact sM ok I e
 split at e
 ·rename_i r h;cases e;exact sO ok I h
 ·exact rK ok I e
section
section
variable  {δ β : Type}
def putA (D:St δ β)(t:Nat)(x:Sl δ β):St δ β :=
 match D[t]? with
 |some .any=>D.set t x
 |_=>aE D (some t) x
def ck (D:St δ β)(dst:Option Nat)(x:Sl δ β):Option (St δ β):=
 match dst with
 |none=>some D
 |some t=>if t<D.length then some (putA D t x)else none
def fm (M:Mk δ β)(tab:Tab)(D:St δ β)(t:Nat)(x:Operand):Option (Bool×List (T δ)×St δ β):=
 match tab.ti t,opd M.nil D x with
 |some ti,some (.pb h 0)=>
  match D[h]? with
  |some (.box _ ts)=>if ts.length=ti.size∧ti.sh ≠ .other∧ti.sh.agg=true∧ts.all T.noLent=true then some (true,ts,aB h D)else none
  |_=>none
 |_,_=>none
def kO (tab:Tab)(ty:Nat)(x:Operand):Option Nat :=
 match x with
 | .const (.slice none 0 0)=>match tab.ti ty with|some ⟨_,_,_,.slice e⟩=>(tab.ti e).map (·.size)|_=>none
 |_=>none
def ef (D:St δ β)(x:Operand):Option (List (Bool×List (T δ))):=
 match x with
 | .tmp t=>match D[t]? with|some (.tup rs)=>if(rs.all fun r=>r.2.all T.flat)=true∧rs≠[]then some rs else none|_=>none
 |_=>none
def lL (c:Call):Option (Nat×Nat×Operand×Operand):=
 match c.callee,c.args.toList,c.argTypes.toList with
 | .builtin .append,[s,x],[t,a]=>some (t,a,s,x)
 |_,_,_=>none
def bQ (M:Mk δ β)(F:gq δ β)(tab:Tab)(D:St δ β)(o:Oper)(tk:Bool):Option (St δ β):=
 match o.op with
 | .store t p x=>match o.dst with
  |none=>(match kO tab t x with|some z=>iu M tab D t p z|none=>jE M tab D t p x tk)
  |some _=>none
 | .alloc t=>iv M F tab D o.dst t
 | .box _ x=>ox M F D o.dst x tk
 | .move x=>match kO tab o.type x with
  |some z=>ck D o.dst (.one (.s .own M.nil z []))
  |none=>match ef D x with
  |some rs=>ck D o.dst (.tup rs)
  |none=>match(if tk then gH D x o.dst else none)with
  |some D'=>some D'
  |none=>if tk then(cellsTake M D x).bind fun r=>match o.dst with|some t=>if t<r.2.2.length then(dw r.1 r.2.1).map fun s=>aE r.2.2 (some t) s else none|none=>none
   else(a9 M tab D o.op).bind fun s=>ck D o.dst s
 | .assign x=>match kO tab o.type x with
  |some z=>ck D o.dst (.one (.s .own M.nil z []))
  |none=>if tk then(cellsTake M D x).bind fun r=>match o.dst with|some t=>if t<r.2.2.length then(dw r.1 r.2.1).map fun s=>aE r.2.2 (some t) s else none|none=>none
   else(a9 M tab D o.op).bind fun s=>ck D o.dst s
 | .load t x=>if tk then(fm M tab D t x).bind fun r=>match o.dst with|some t=>if t<r.2.2.length then(dw r.1 r.2.1).map fun s=>aE r.2.2 (some t) s else none|none=>none
   else(a9 M tab D o.op).bind fun s=>ck D o.dst s
 | .extract x i=>iA D o.dst x i
 | .makeFunc fn first caps=>match fn with| .func f=>if first.toList=[]then(mo D f caps.toList).bind fun s=>ck D o.dst s else none|_=>none
 | .buildSlice t len a=>if tk then ey M F tab D o.dst t len a.toList else cr M F tab D o.dst t len a.toList
 | .makeSlice t l c=>ct M F tab D o.dst t l c
 | .call c=>match lL c with
  |some (t,d,s,x)=>ga M F tab D o.dst t d s x
  |none=>(a9 M tab D o.op).bind fun s=>ck D o.dst s
 | .convert b dst x=>match gd M tab D b dst x with
  |some rows=>(ci rows).bind fun xs=>ck D o.dst (.one (.v (.string (strOfNums xs))))
  |none=>match dh M F tab D o.dst b dst x with
  |some D'=>some D'
  |none=>(a9 M tab D o.op).bind fun s=>ck D o.dst s
 | .build t a=>if tk then iw M tab D o.dst t a.toList else(gt M tab D t a.toList).bind fun s=>ck D o.dst s
 |op=>(a9 M tab D op).bind fun s=>ck D o.dst s
end
theorem Inv.any_refs {cx:Cx}{D:DSt}{P:List (DT×Value)}{tm:Array Value}{w:World}(I:Inv cx D P tm w){t:Nat}(x:D[t]?=some .any){s:DSl}{y:Value}(hv:VS D s y)(q:cl cx D s):¬bz t s:=by
 have hc:∀c,am D t c=none:=fun c=>by simp[am,x,aD]
 have j:∀(us:List DT),(∀u∈us,aS cx D u)→¬ ∃u∈us,∃c o d z r,u = .s (.lent t c o) d z r:=by rintro us h ⟨u,v,c,o,d,z,r,rfl⟩;obtain⟨t',m,_⟩:=h _ v;rw[hc]at m;cases m
 intro l;cases s with
 |any=>exact l
 |one u=>obtain⟨c,o,d,z,r,rfl⟩:=l;exact j [_] (fun u v=>q u (by simpa[af]using v)) ⟨_,EN _,c,o,d,z,r,rfl⟩
 |agg ts=>exact j ts q l
 |box b ts=>exact j ts q l
 |al h c st lo len =>simp only[bz]at l;subst l;obtain⟨d,z,n,a,⟨t',m,_⟩,_⟩:=hv;rw[hc]at m;cases m
 |pe h c st i off =>simp only[bz]at l;subst l;obtain⟨d,z,n,⟨t',m,_⟩,_⟩:=hv;rw[hc]at m;cases m
 |pb h off =>simp only[bz]at l;subst l;obtain⟨b,ts,m,_⟩:=hv;rw[x]at m;cases m
 |im k b ts off =>
  cases k with
  |own=>exact l
  |far=>exact l
  |lent h c o =>simp only[bz]at l;subst l;obtain⟨t',m,_⟩:=q;rw[hc]at m;cases m
 |fni f caps=>exact l
 |clo f hs =>
  obtain⟨B,m,C,_⟩:=hv;obtain⟨i,hi⟩:=En l;obtain⟨b,hb⟩:∃b,B[i]?=some b:=by
   have:i<hs.length:=by
    rcases Em i hs.length with g|g
    ·exact g
    ·rw[Ek g]at hi;cases hi
   exact⟨_,El (by omega)⟩
  obtain⟨ts,A⟩:=C i t b hi hb;rw[x]at A;cases A
 |tup rs =>obtain⟨p,F,u,v,c,o,d,z,r,e⟩:=l;exact j (af (.tup rs)) q ⟨u,Eq.2 ⟨p,F,v⟩,c,o,d,z,r,e⟩
theorem Inv.putA {cx:Cx}{D:DSt}{a:Act}{w:World}(I:Inv cx D [] a.tmps w){t:Nat}{s:DSl}{y:Value}(f:t<D.length)(h:Tells cx D w s y):Inv cx (putA D t s) [] (a.put (some t) y).tmps w:=by
 have c:∀b,(ownBl s).count b≤az [] b:=by intro b;have:ownBl s=[]:=h.noown;rw[this];simp[az]
 unfold Am.putA;split
 ·rename_i e;exact Inv.fill (P:=[]) (Q:=[]) (by simpa using I) e (fun s' d=>by obtain⟨u,g⟩:=En d;exact I.any_refs e (I.val u s' g) (I.kind s' d)) (I.any_refs e h.val h.kind) h.val h.mem h.kind c
 ·exact Inv.put (P:=[]) (Q:=[]) (by simpa using I) f h.val h.mem h.kind c
variable  {P : Program}{tab : Tab}
inductive pC (cx:Cx)(D':DSt)(a:Act)(o:Oper)(w':World):Next→Prop where|value (y:Value) (h:Inv cx D' [] (a.put o.dst y).tmps w'):pC cx D' a o w' (.value y)|skip (hd:o.dst=none) (h:Inv cx D' [] a.tmps w'):pC cx D' a o w' .skip
theorem gy (ok:aK P tab){cx:Cx}{D D':DSt}{a:Act}{w:World}(I:Inv cx D [] a.tmps w){o:Oper}(e:((a9 mkD tab D o.op).bind fun s=>ck D o.dst s)=some D'):
  ∃c w',(execOp a.eval o).run P w = .ok c w'∧pC cx D' a o w' c:=by
 rw[Eh]at e;obtain⟨s,d,b⟩:=e;obtain⟨y,f,g⟩:=jI ok I d;refine⟨_,w,f,.value y ?_⟩;unfold ck at b;split at b
 ·rename_i hd;cases b;rw[hd];exact I
 ·rename_i t hd;split at b
  ·cases b;rw[hd];exact I.putA ‹_› g
  ·cases b
theorem jw {cx:Cx}{D D':DSt}{a:Act}{w:World}(I:Inv cx D [] a.tmps w){o:Oper}{s:DSl}{y:Value}(c:Tells cx D w s y)(b:ck D o.dst s=some D'):pC cx D' a o w (.value y):=by
 refine .value y ?_;unfold ck at b;split at b
 ·rename_i hd;cases b;rw[hd];exact I
 ·rename_i t hd;split at b
  ·cases b;rw[hd];exact I.putA ‹_› c
  ·cases b
theorem rG {cx:Cx}{D D':DSt}{a:Act}{w:World}(I:Inv cx D [] a.tmps w){x:Operand}{dst:Option Nat}
  (e:((cellsTake mkD D x).bind fun r=>match dst with|some t=>if t<r.2.2.length then(dw r.1 r.2.1).map fun s=>aE r.2.2 (some t) s else none|none=>none)=some D'):
  Inv cx D' [] (a.put dst (a.eval x)).tmps w:=by
 rw[Eh]at e;obtain⟨⟨g,us,D1⟩,c,b⟩:=e;obtain⟨ys,i,d,G,hv⟩:=I.cellsTake c;simp only at b;split at b
 ·rename_i t;split at b
  ·rename_i f;rw[Ei]at b;obtain⟨s,hs,rfl⟩:=b;exact d.putGot G hv hs (fun t' h=>by cases h;exact f) rfl
  ·cases b
 ·cases b
theorem rS (ok:aK P tab){cx:Cx}{D D':DSt}{a:Act}{w:World}(I:Inv cx D [] a.tmps w){o:Oper}{t:Nat}{x:Operand}(C:o.op = .load t x)
  (e:((fm mkD tab D t x).bind fun r=>match o.dst with|some t=>if t<r.2.2.length then(dw r.1 r.2.1).map fun s=>aE r.2.2 (some t) s else none|none=>none)=some D'):
  ∃y,(execOp a.eval o).run P w = .ok (.value y) w∧Inv cx D' [] (a.put o.dst y).tmps w:=by
 rw[Eh]at e;obtain⟨⟨g,us,D1⟩,l,n⟩:=e;unfold fm at l;split at l
 case h_2=>cases l
 rename_i ti h F M;split at l
 case h_2=>cases l
 rename_i b ts hh;split at l
 case isFalse=>cases l
 rename_i hc;cases l;obtain⟨N,O,Q,q⟩:=hc;have R:a9 mkD tab D o.op=some (.agg (us.mapIdx fun j u=>u.kd (.lent h (0+j) true))):=by
  rw[C];have H:opd mkD.nil D x=some (.pb h 0):=M;simp only[a9,H,F];rw[Eu O];simp only[en,boxRange,hh];rw[Ej (by omega),Eg,Ej Q];have:(us.drop 0).take ti.size=us:=by rw[FW, ←N,F7]
  rw[this]
 obtain⟨y,S,U⟩:=jI ok I R;refine⟨y,S,?_⟩;obtain⟨cs,V,m⟩:=U.val;have f:VCells us cs.toList:=by refine⟨by simpa using m.1,fun i u v hi hv=>?_⟩;have:=m.2 i (u.kd (.lent h (0+i) true)) v (by rw[FG,hi];rfl) hv;exact wA.1 this
 have L:=I.mem _ (Ef hh);have W:=I.kind _ (Ef hh);have A:∀v∈us,∀h c B d z r,v ≠ .s (.lent h c B) d z r:=by intro v hv h c B d z r g;have:=Eo.1 q v hv;rw[g]at this;simp[T.noLent]at this
 have X:=Inv.take I (cs:=us.zip cs.toList) hh (fun p J=>by obtain⟨i,hi⟩:=En J;rw[FT]at hi;exact⟨Ef hi.1,Ef hi.1,f.2 i _ _ hi.1 hi.2⟩)
  (fun p J=>A p.1 (List.of_mem_zip J).1) (fun c=>by rw[ig _ _ f.1];simp only[ownBl];rw[Fu];omega) (by simp) (by simp)
 have G:Got cx (aB h D) w (us.zip cs.toList++[]) us cs.toList:=by
  refine⟨f,L.1,L.2.1,fun v hv=>?_,fun c=>?_⟩
  ·have K:=W v hv;have:=A v hv;cases v with
   |v x=>trivial
   |any=>trivial
   |s k d z r =>
    cases k with
    |own=>trivial
    |far=>exact K
    |lent h c B=>exact absurd rfl (this h c B d z r)
  ·rw[EH,ig _ _ f.1];exact EQ _
 simp only at n;split at n
 ·rename_i t' hd;split at n
  ·rename_i Y;rw[Ei]at n;obtain⟨s,hs,rfl⟩:=n;have:=Inv.putGot (dst:=some t') X G (by simp only[bd,EV];exact V) hs (fun Z h=>by cases h;exact Y) rfl;rw[hd];exact this
  ·cases n
 ·cases n
theorem xI {cx:Cx}{D:DSt}{a:Act}{w:World}(I:Inv cx D [] a.tmps w){f:FuncId}{caps:Array Operand}{s:DSl}(e:mo D f caps.toList=some s):Tells cx D w s (.func (.func f) #[] (caps.map a.eval)):=by
 unfold mo at e;rw[Ei]at e;obtain⟨hs,r,rfl⟩:=e;have l:∀(xs:List Operand){hs:List Nat},ie D xs=some hs →
   ∃d:List (Nat×Nat),d.length=hs.length∧(∀(i h:Nat)(b:Nat×Nat),hs[i]?=some h→d[i]?=some b→∃ts,D[h]?=some (.box b ts))∧xs.map a.eval=d.map fun b=>Value.pointer (some ⟨b.1,b.2,none⟩):=by
  intro xs;induction xs with
  |nil=>intro hs h;cases h;exact⟨[],rfl,fun i h b hi=>by simp at hi,rfl⟩
  |cons x xs v =>
   intro hs h;simp only[ie,Eh,Ei]at h;obtain⟨y,g,z,A,rfl⟩:=h;obtain⟨d,m,n,o⟩:=v A;have j:∃(b:Nat×Nat) (ts:List DT),D[y]?=some (.box b ts)∧a.eval x = .pointer (some ⟨b.1,b.2,none⟩):=by
    unfold fH at g;split at g
    ·rename_i t;split at g
     ·rename_i b ts hb;cases g;exact⟨b,ts,hb,I.val _ _ hb⟩
     ·rename_i B hb;cases g;obtain⟨b,ts,p,q⟩:=I.val _ _ hb;exact⟨b,ts,p,q⟩
     ·cases g
    ·cases g
   obtain⟨b,ts,p,q⟩:=j;refine⟨b::d,by simp[m],fun i h c hi hc=>?_,by simp[o,q]⟩;cases i with
   |zero=>simp at hi hc;subst hi;subst hc;exact⟨ts,p⟩
   |succ i=>simp at hi hc;exact n i h c hi hc
 obtain⟨d,m,n,o⟩:=l _ r;refine⟨⟨d,m,n,?_⟩,⟨fun u k=>by simp[af]at k,fun u k=>by simp[rootsO]at k,trivial⟩,fun u k=>by simp[af]at k,rfl⟩;congr 1;rw[←Fv];simpa using o
theorem sI {c:Call}{t a:Nat}{s x:Operand}(h:lL c=some (t,a,s,x)):c.callee = .builtin .append∧c.args = #[s,x]∧c.argTypes = #[t,a]:=by
 unfold lL at h;split at h
 ·rename_i b d e;cases h;exact⟨b,by rw[←Fv];exact d,by rw[←Fv];exact e⟩
 ·cases h
theorem rH {cx:Cx}{D:DSt}{a:Act}{w:World}(I:Inv cx D [] a.tmps w){x:Operand}{rs:List (Bool×List DT)}(h:ef D x=some rs):Tells cx D w (.tup rs) (a.eval x):=by
 unfold ef at h;split at h
 ·rename_i t;split at h
  ·rename_i e hr;split at h
   ·rename_i hf;cases h;have c:=Ef hr;refine⟨I.val t _ hr,I.mem _ c,I.kind _ c,?_⟩;simp only[ownBl,Ey];intro r b u f;have:=Eo.1 (Eo.1 hf.1 r b) u f;cases u with
    |v x=>rfl
    |any=>rfl
    |s k d z q=>cases this
   ·cases h
  ·cases h
 ·cases h
theorem rv {cx:Cx}{D:DSt}{w:World}(z:Nat):Tells cx D w (.one (.s .own nilD z [])) (.slice none 0 0):=by
 refine⟨rfl,⟨fun u a=>?_,fun u a _=>?_,trivial⟩,fun u a=>?_,?_⟩
 ·simp only[af,Er]at a;subst a;exact .e _ _ _
 ·simp only[rootsO,Er]at a;subst a;exact .nil _ _ rfl rfl rfl
 ·simp only[af,Er]at a;subst a;trivial
 ·simp[ownBl,ownR,T.isOwn,bR,nilD]
theorem qr (ok:aK P tab){cx:Cx}{D D':DSt}{a:Act}{w:World}(I:Inv cx D [] a.tmps w){o:Oper}{tk:Bool}(e:bQ mkD (frD w) tab D o tk=some D'):
  ∃r w',(execOp a.eval o).run P w = .ok r w'∧pC cx D' a o w' r:=by
 unfold bQ at e;split at e
 ·rename_i t p x b;split at e
  ·rename_i hd;split at e
   ·rename_i z hz;have k:a.eval x = .slice none 0 0:=by
     unfold kO at hz;split at hz
     ·rfl
     ·cases hz
    obtain⟨w',d,g⟩:=qT ok I e;rw[←k]at d;exact⟨.skip,w',by simp[execOp,b,d],.skip hd g⟩
   ·obtain⟨w',d,g⟩:=vE ok I e;exact⟨.skip,w',by simp[execOp,b,d],.skip hd g⟩
  ·cases e
 ·rename_i t b;obtain⟨y,w',d,g⟩:=oD ok I e;exact⟨.value y,w',by simp[execOp,b,d],.value y g⟩
 ·rename_i t x b;obtain⟨y,w',d,g⟩:=xH (P:=P) (t:=t) I e;exact⟨.value y,w',by simp[execOp,b,d],.value y g⟩
 ·rename_i x b;split at e
  ·rename_i z hz;have k:a.eval x = .slice none 0 0:=by
    unfold kO at hz;split at hz
    ·rfl
    ·cases hz
   exact⟨.value (a.eval x),w,by simp[execOp,b],jw I (k ▸ rv z) e⟩
  ·split at e
   ·rename_i rs u;exact⟨.value (a.eval x),w,by simp[execOp,b],jw I (rH I u) e⟩
   ·split at e
    ·rename_i v hs;cases e;split at hs
     ·exact⟨.value (a.eval x),w,by simp[execOp,b],.value _ (sn I hs)⟩
     ·cases hs
    split at e
    ·exact⟨.value (a.eval x),w,by simp[execOp,b],.value _ (rG I e)⟩
    ·exact gy ok I e
 ·rename_i x b;split at e
  ·rename_i z hz;have k:a.eval x = .slice none 0 0:=by
    unfold kO at hz;split at hz
    ·rfl
    ·cases hz
   exact⟨.value (a.eval x),w,by simp[execOp,b],jw I (k ▸ rv z) e⟩
  ·split at e
   ·exact⟨.value (a.eval x),w,by simp[execOp,b],.value _ (rG I e)⟩
   ·exact gy ok I e
 ·rename_i t x b;split at e
  ·obtain⟨y,d,g⟩:=rS ok I b e;exact⟨.value y,w,d,.value _ g⟩
  ·exact gy ok I e
 ·rename_i x i b;obtain⟨y,d,g⟩:=rN (P:=P) I e;exact⟨.value y,w,by simp[execOp,b,d],.value y g⟩
 ·rename_i fn first caps b
  split at e
  case h_2=>cases e
  rename_i f;split at e
  case isFalse=>cases e
  rename_i h;rw[Eh]at e;obtain⟨s,d,g⟩:=e;have hf:first = #[]:=by rw[←Fv];exact h
  subst hf;exact⟨.value _,w,by simp[execOp,b,Instr.makeFunc],jw I (xI I d) g⟩
 ·rename_i t len j b;split at e
  ·obtain⟨y,w',d,g⟩:=oA ok I e;exact⟨.value y,w',by simp[execOp,b,d],.value y g⟩
  ·obtain⟨y,w',d,g⟩:=pd ok I e;exact⟨.value y,w',by simp[execOp,b,d],.value y g⟩
 ·rename_i t l c b;obtain⟨y,w',d,g⟩:=qa ok I e;exact⟨.value y,w',by simp[execOp,b,d],.value y g⟩
 ·rename_i c b;split at e
  ·rename_i t G s x n;obtain⟨A,B,C⟩:=sI n;obtain⟨y,w',d,g⟩:=sJ (ty:=o.type) ok I e;refine⟨.value y,w',?_,.value y g⟩;simp[execOp,b,resolve,invoke,builtin,A,B,C,d]
  ·exact gy ok I e
 ·rename_i F dst x b;split at e
  ·rename_i rows hb;rw[Eh]at e;obtain⟨xs,d,g⟩:=e;have m:=qA ok I hb d;exact⟨.value _,w,by simp[execOp,b,m],jw I (.one_v _ rfl) g⟩
  ·split at e
   ·rename_i v hs;cases e;obtain⟨y,w',d,g⟩:=qU ok I hs;exact⟨.value y,w',by simp[execOp,b,d],.value y g⟩
   ·exact gy ok I e
 ·rename_i t j b;split at e
  ·obtain⟨y,m,q⟩:=rL ok I e;exact⟨.value y,w,by simp[execOp,b,m],.value y q⟩
  ·rw[Eh]at e;obtain⟨s,d,g⟩:=e;obtain⟨y,m,q⟩:=oE ok I d;exact⟨.value y,w,by simp[execOp,b,m],jw I q g⟩
 ·exact gy ok I e
end
mutual
def T.er:DT→T Unit| .v x=>.v x| .any=>.any| .s k _ z rows=>.s k () z (np rows)
def pM:List DT→List (T Unit)|[]=>[]|t::r=>t.er::pM r
def np:List (List DT)→List (List (T Unit))|[]=>[]|r::rs=>pM r::np rs
end
abbrev erL:List DT→List (T Unit):=List.map T.er
theorem y5 (r:List DT):pM r=erL r:=by
 induction r with
 |nil=>simp[pM]
 |cons t r a=>simp[pM,a]
theorem rf (r:List (List DT)):np r=r.map erL:=by
 induction r with
 |nil=>simp[np]
 |cons t r a=>simp[np,a,y5]
theorem aq (k:Kd)(d:Dec)(z:Nat)(rows:List (List DT)):(T.s k d z rows:DT).er = .s k () z (rows.map erL):=by rw[T.er,rf]
theorem c8 (x:Value):(T.v x:DT).er = .v x:=rfl
theorem lP:(T.any:DT).er = .any:=rfl
def Sl.er:DSl→Sl Unit Unit| .any=>.any| .one t=>.one t.er| .agg ts=>.agg (erL ts)| .box _ ts=>.box () (erL ts)| .al h c st lo len=>.al h c st lo len| .pb h off=>.pb h off| .pe h c st i off=>.pe h c st i off| .im k _ ts off=>.im k () (erL ts) off| .fni f caps=>.fni f (caps.map fun p=>((),erL p.2))| .clo f hs=>.clo f hs| .tup rs=>.tup (rs.map fun r=>(r.1,erL r.2))
def erD (D:DSt):St Unit Unit:=D.map Sl.er
theorem zJ (k:Kd)(t:DT):(t.kd k).er=t.er.kd k:=by
 cases t with
 |s k' d z r=>cases k'<;>simp[T.kd,aq]
 |_=>rfl
theorem vT (k:Kd)(t:DT):(t.view k).er=t.er.view k:=by
 cases t with
 |s k' d z r=>simp[T.view,aq]
 |_=>rfl
theorem bP (t:DT):t.er.isOwn=t.isOwn:=by
 cases t with
 |s k' d z r=>cases k'<;>simp[T.isOwn,aq]
 |_=>rfl
theorem lQ (t:DT):t.er.fine=t.fine:=by
 cases t with
 |s k' d z r=>cases k'<;>simp[T.fine,aq]
 |_=>rfl
theorem lR (t:DT):t.er.flat=t.flat:=by
 cases t with
 |s k' d z r=>simp[T.flat,aq]
 |_=>rfl
theorem cm (t:DT):t.er.noLent=t.noLent:=by
 cases t with
 |s k' d z r=>cases k'<;>simp[T.noLent,aq]
 |_=>rfl
theorem er_dead (p:Nat→Nat→Bool)(t:DT):(t.dead p).er=t.er.dead p:=by
 cases t with
 |s k' d z r =>
  cases k' with
  |lent h c a=>simp only[T.dead,aq];split<;>simp[aq,lP]
  |_=>simp[T.dead,aq]
 |_=>rfl
theorem mr (p:Nat→Nat→Bool)(ts:List DT):erL (ts.map (T.dead p))=(erL ts).map (T.dead p):=by simp only[erL,ES];exact EM fun t _=>er_dead p t
theorem kG (k:Kd)(ts:List DT):erL (ts.map (T.view k))=(erL ts).map (T.view k):=by simp only[erL,ES];exact EM fun t _=>vT k t
theorem Sl.er_dead (p:Nat→Nat→Bool)(q:Nat→Nat→Bool→Bool)(s:DSl):(s.dead p q).er=s.er.dead p q:=by
 cases s with
 |one t=>simp[Sl.dead,Sl.er,Am.er_dead]
 |agg ts=>simp only[Sl.dead,Sl.er,mr]
 |box b ts=>simp only[Sl.dead,Sl.er,mr]
 |al h c st lo len=>by_cases e:q h c (!st.isEmpty)=true<;>simp[e,Sl.dead,Sl.er]
 |pe h c st lo len=>by_cases e:q h c (!st.isEmpty)=true<;>simp[e,Sl.dead,Sl.er]
 |im k b ts off =>
  cases k with
  |lent h c a=>by_cases e:p h c=true<;>simp[e,Sl.dead,Sl.er]
  |_=>simp[Sl.dead,Sl.er]
 |tup rs=>simp only[Sl.dead,Sl.er,ES];congr 1;exact EM fun r _=>by simp only[Function.comp,mr]
 |_=>rfl
theorem Sl.er_gone (t:Nat)(s:DSl):(s.gone t).er=s.er.gone t:=by
 cases s with
 |pb h off=>by_cases e:h=t<;>simp[e,Sl.gone,Sl.er]
 |clo f hs=>by_cases e:t∈hs<;>simp[e,Sl.gone,Sl.er]
 |_=>rfl
theorem gf (p:Nat→Nat→Bool)(q:Nat→Nat→Bool→Bool)(D:DSt):erD (St.dead p q D)=St.dead p q (erD D):=by simp only[St.dead,erD,ES];exact EM fun s _=>Sl.er_dead p q s
theorem ch (D:DSt):(erD D).length=D.length:=by simp[erD]
theorem a8 (D:DSt)(t:Nat):(erD D)[t]?=(D[t]?).map Sl.er:=by simp[erD]
theorem cN (D:DSt)(t:Nat)(s:DSl):erD (D.set t s)=(erD D).set t s.er:=by simp[erD,F0]
theorem eg (t:Nat)(D:DSt):erD (aB t D)=aB t (erD D):=by unfold aB;rw[cN, ←gf];congr 1;simp only[erD,ES];exact EM fun s _=>Sl.er_gone t s
theorem y8 (t:Nat)(s:DSl):(s.clean t).er=s.er.clean t:=by unfold Sl.clean;rw[Sl.er_gone,Sl.er_dead]
theorem bf (D:DSt)(dst:Option Nat)(s:DSl):erD (aE D dst s)=aE (erD D) dst s.er:=by
 cases dst with
 |none=>rfl
 |some t=>simp only[aE];rw[cN,eg,y8]
theorem oy (D:DSt)(t:Nat)(s:DSl):erD (putA D t s)=putA (erD D) t s.er:=by
 unfold putA;rw[a8];cases h:D[t]? with
 |none=>exact bf D (some t) s
 |some x=>cases x<;>first|exact cN D t s|exact bf D (some t) s
theorem iy (D:DSt)(dst:Option Nat)(s:DSl):ck (erD D) dst s.er=(ck D dst s).map erD:=by
 cases dst with
 |none=>rfl
 |some t=>simp only[ck,ch];split<;>simp[oy]
theorem nv (s:DSl):aD s.er=(aD s).map erL:=by cases s<;>simp[aD,Sl.er]
theorem uY (cs:List DT)(s:DSl):(setCells cs s).er=setCells (erL cs) s.er:=by
 cases s with
 |one t=>cases cs<;>simp[setCells,Sl.er,lP]
 |_=>simp[setCells,Sl.er]
theorem fe (D:DSt)(h c:Nat):am (erD D) h c=(am D h c).map T.er:=by
 unfold am;rw[a8];cases D[h]? with
 |none=>rfl
 |some s =>
  simp only[Ee,Eg,nv];cases aD s with
  |none=>rfl
  |some cs=>simp
theorem tc (D:DSt)(h c:Nat)(t:DT):c7 (erD D) h c t.er=(c7 D h c t).map erD:=by
 unfold c7;rw[a8];cases D[h]? with
 |none=>rfl
 |some s =>
  simp only[Ee,nv];cases aD s with
  |none=>rfl
  |some cs =>simp only[Ee,cN,uY];simp[F0]
theorem lS:∀(st:List (Nat×Nat))(t:DT),getN t.er st=(getN t st).map T.er
 |[],t=>by simp[getN]
 |(i,c)::st,t=>by
  cases t with
  |v x=>rfl
  |any=>rfl
  |s k d z rows =>
   simp only[aq,getN,Et];cases rows[i]? with
   |none=>rfl
   |some row =>
    simp only[Ee,Eg,Et];cases row[c]? with
    |none=>rfl
    |some u=>simp only[Ee,Eg];exact lS st u
theorem vS {f:DT→Option DT}{f':T Unit→Option (T Unit)}(hf:∀t,f' t.er=(f t).map T.er):∀(st:List (Nat×Nat))(t:DT),cV f' t.er st=(cV f t st).map T.er
 |[],t=>by simp only[cV];exact hf t
 |(i,c)::st,t=>by
  cases t with
  |v x=>rfl
  |any=>rfl
  |s k d z rows =>
   simp only[aq,cV,Et];cases rows[i]? with
   |none=>rfl
   |some row =>
    simp only[Ee,Eg,Et];cases row[c]? with
    |none=>rfl
    |some u =>
     simp only[Ee,Eg];rw[vS hf st u];cases cV f u st with
     |none=>rfl
     |some u'=>simp[aq,F0]
theorem jT (D:DSt)(h c:Nat)(st:List (Nat×Nat)):bC (erD D) h c st=(bC D h c st).map T.er:=by
 unfold bC;rw[fe];cases am D h c with
 |none=>rfl
 |some t=>simp only[Ee,Eg];exact lS st t
theorem jn {f:DT→Option DT}{f':T Unit→Option (T Unit)}(hf:∀t,f' t.er=(f t).map T.er)(D:DSt)(h c:Nat)(st:List (Nat×Nat)):
  bU f' (erD D) h c st=(bU f D h c st).map erD:=by
 unfold bU;rw[fe];cases am D h c with
 |none=>rfl
 |some t =>
  simp only[Ee,Eg];rw[vS hf];cases cV f t st with
  |none=>rfl
  |some t'=>simp only[Ee,Eg];exact tc D h c t'
theorem xS (D:DSt)(t:Nat):kF (erD D) t=(kF D t).map Sl.er:=by
 unfold kF;rw[a8];cases D[t]? with
 |none=>rfl
 |some s =>
  cases s with
  |one u =>
   cases u with
   |s k d z rows=>cases k<;>simp[Sl.er,aq]
   |_=>rfl
  |agg ts =>
   simp only[Ee,Sl.er,EY,Sl.agg.injEq];apply Ft;intro i;simp only[FG,Et,E8];cases ts[i]? with
   |none=>rfl
   |some u=>simp[zJ]
  |_=>rfl
theorem xX (D:DSt)(x:Operand):opd () (erD D) x=(opd nilD D x).map Sl.er:=by
 cases x with
 |tmp t=>exact xS D t
 |const v =>
  simp only[opd];unfold qB;split
  ·simp[Sl.er,aq]
  ·rfl
  ·split<;>simp[Sl.er,c8]
 |func f=>simp[opd,Sl.er]
 |global g=>rfl
theorem bn (D:DSt)(x:Operand):opd mkU.nil (erD D) x=(opd mkD.nil D x).map Sl.er:=xX D x
theorem uR (D:DSt)(h o n:Nat):boxRange (erD D) h o n=(boxRange D h o n).map erL:=by
 unfold boxRange;rw[a8];cases D[h]? with
 |none=>rfl
 |some s =>
  cases s with
  |box b ts=>simp only[Ee,Sl.er,EJ];split<;>simp[FK,FL]
  |_=>rfl
theorem uX (D:DSt)(h c:Nat)(st:List (Nat×Nat))(i o n:Nat):rowRange (erD D) h c st i o n=(rowRange D h c st i o n).map erL:=by
 unfold rowRange;rw[fe];cases am D h c with
 |none=>rfl
 |some t =>
  simp only[Ee,bP];split
  ·rw[lS];cases getN t st with
   |none=>rfl
   |some u =>
    cases u with
    |s k d z rows =>
     simp only[Ee,aq,Et];cases rows[i]? with
     |none=>rfl
     |some row=>simp only[Ee,Eg,EJ];split<;>simp[FK,FL]
    |_=>rfl
  ·rfl
theorem xV (D:DSt)(ti:TI)(s:DSl):en (erD D) ti s.er=(en D ti s).map Sl.er:=by
 cases s with
 |pb h o =>
  simp only[Sl.er,en,uR];cases boxRange D h o ti.size with
  |none=>rfl
  |some cs =>
   simp only[Ee,Eg];split
   ·simp only[Ee,Sl.er,EY,Sl.agg.injEq];apply Ft;intro i;simp only[FG,Et,E8];cases cs[i]? with
    |none=>rfl
    |some u=>simp[zJ]
   ·match cs with
    |[]=>rfl
    |[u]=>
     cases u with
     |s k d z rows=>cases k<;>simp[erL,aq,Sl.er]
     |_=>rfl
    |u::v::r=>simp[erL]
 |pe h c st i o =>
  simp only[Sl.er,en,uX];cases rowRange D h c st i o ti.size with
  |none=>rfl
  |some cs =>
   simp only[Ee,Eg];split
   ·simp only[Ee,Sl.er,kG]
   ·match cs with
    |[]=>rfl
    |[u]=>
     cases u with
     |s k d z rows=>cases k<;>simp[erL,aq,Sl.er,T.view]
     |_=>rfl
    |u::v::r=>simp[erL]
 |im k b ts o =>
  simp only[Sl.er,en,EJ];split
  ·split
   ·simp only[Ee,Sl.er,kG,erL,FK,FL]
   ·simp only[erL, ←FL, ←FK]
    match(ts.drop o).take ti.size with
    |[]=>rfl
    |[u]=>simp[Sl.er,vT]
    |u::v::r=>rfl
  ·rfl
 |_=>rfl
theorem s8 (D:DSt)(h c:Nat)(st:List (Nat×Nat)):iS (erD D) h c st=iS D h c st:=by
 unfold iS;rw[jT];cases bC D h c st with
 |none=>rfl
 |some t =>
  cases t with
  |s k d z rows=>simp[aq]
  |_=>rfl
theorem wO (D:DSt)(tab:Tab)(t:Nat)(x:DSl)(lo hi:Option Int):fT mkU (erD D) tab t x.er lo hi=(fT mkD D tab t x lo hi).map Sl.er:=by
 cases x with
 |one u =>
  cases u with
  |v y =>
   cases y<;>simp only[Sl.er,c8,fT]<;>first|rfl|skip
   split
   ·split<;>simp[Sl.er,c8]
   ·rfl
  |any=>rfl
  |s k d z rows =>
   simp only[Sl.er,aq,fT,EJ];split
   ·rfl
   ·split
    ·split
     ·split
      ·simp[Sl.er,aq,mkU]
      ·rfl
     ·rfl
    ·rfl
 |al h c st l len =>
  simp only[Sl.er,fT,s8];split
  ·split
   ·split<;>simp[Sl.er]
   ·rfl
  ·rfl
 |_=>rfl
theorem qF (D:DSt)(tab:Tab)(t:Nat)(x:DSl)(i:Int):dD mkU (erD D) tab t x.er i=(dD mkD D tab t x i).map Sl.er:=by
 unfold dD;split
 ·cases x with
  |one u =>
   cases u with
   |v y=>rfl
   |any=>rfl
   |s k d z rows =>
    simp only[Sl.er,aq,Et];split
    ·rfl
    ·split
     ·split
      ·cases rows[i.toNat]? with
       |none=>rfl
       |some row=>simp[Sl.er]
      ·rfl
     ·rfl
  |al h c st lo len =>
   simp only[Sl.er,s8];split
   ·split<;>simp[Sl.er]
   ·rfl
  |_=>rfl
 ·rfl
theorem qE (tab:Tab)(t:Nat)(x:DSl)(f:Nat):fJ tab t x.er f=(fJ tab t x f).map Sl.er:=by
 unfold fJ;split
 ·rename_i offs _;cases offs[f]? with
  |none=>rfl
  |some o=>cases x<;>rfl
 ·rfl
theorem zg (tab:Tab)(t:Nat)(x:DSl):mD tab t x.er=mD tab t x:=by
 unfold mD;split
 ·cases x with
  |one u =>
   cases u with
   |s k d z rows=>simp[Sl.er,aq]
   |_=>rfl
  |_=>rfl
 ·cases x with
  |one u =>
   cases u with
   |s k d z rows=>simp[Sl.er,aq]
   |v y=>cases y<;>rfl
   |any=>rfl
  |_=>rfl
 ·rfl
theorem zi (x:DSl):qf x.er=qf x:=by cases x<;>rfl
theorem xY (D:DSt)(x:Option Operand):dQ () (erD D) x=dQ nilD D x:=by
 cases x with
 |none=>rfl
 |some x =>
  simp only[dQ,xX];cases opd nilD D x with
  |none=>rfl
  |some s =>
   cases s with
   |one u =>
    cases u with
    |s k d z rows=>simp[Sl.er,aq]
    |v y=>cases y<;>rfl
    |any=>rfl
   |_=>rfl
theorem wL (D:DSt)(x:Option Operand):dQ mkU.nil (erD D) x=dQ mkD.nil D x:=xY D x
theorem za (tab:Tab)(D:DSt)(c:Call):pV mkU tab (erD D) c=(pV mkD tab D c).map Sl.er:=by
 unfold pV;split
 ·rename_i x t _ _ _;rw[bn];cases opd mkD.nil D x with
  |none=>rfl
  |some s =>
   simp only[Ee,Eg,zg];cases mD tab t s with
   |none=>rfl
   |some n=>rfl
 ·rename_i x y _ _;simp only[bn];cases g:opd mkD.nil D x with
  |none=>rfl
  |some e =>
   cases h:opd mkD.nil D y with
   |none=>cases e with
    |one u=>cases u with
     |s k d z rows=>simp[Sl.er,aq]
     |v a=>cases a<;>rfl
     |any=>rfl
    |_=>rfl
   |some f =>
    cases e with
    |one u =>
     cases u with
     |s k d z rows=>simp[Sl.er,aq]
     |any=>rfl
     |v a =>
      cases f with
      |one v=>cases v with
       |s k d z rows=>cases a<;>simp[Sl.er,aq,c8]
       |any=>cases a<;>rfl
       |v b=>cases a<;>cases b<;>rfl
      |_=>cases a<;>rfl
    |_=>rfl
 ·rename_i x y _ _;simp only[bn];cases g:opd mkD.nil D x with
  |none=>rfl
  |some e =>
   cases h:opd mkD.nil D y with
   |none=>cases e with
    |one u=>cases u with
     |s k d z rows=>simp[Sl.er,aq]
     |v a=>cases a<;>rfl
     |any=>rfl
    |_=>rfl
   |some f =>
    cases e with
    |one u =>
     cases u with
     |s k d z rows=>simp[Sl.er,aq]
     |any=>rfl
     |v a =>
      cases f with
      |one v=>cases v with
       |s k d z rows=>cases a<;>simp[Sl.er,aq,c8]
       |any=>cases a<;>rfl
       |v b=>cases a<;>cases b<;>rfl
      |_=>cases a<;>rfl
    |_=>rfl
 ·rfl
theorem Ax (us:List DT)(off:Nat):(erL us)[off]?=(us[off]?).map T.er:=by simp[erL]
theorem pQ (tab:Tab)(us c:List DT):∀l,eK tab (erL us) (erL c) l=eK tab us c l
 |[]=>rfl
 |(off,e)::r=>by
  simp only[eK,Ax];cases tab.ti e with
  |none=>rfl
  |some ti =>
   cases us[off]? with
   |none=>rfl
   |some u =>
    cases c[off]? with
    |none=>cases u with
     |s k d z rows=>simp[aq]
     |_=>rfl
    |some v =>
     cases u with
     |s k d z rows=>simp[aq]
     |any=>rfl
     |v a =>
      cases v with
      |s k d z rows=>simp[aq,c8]
      |any=>rfl
      |v b=>simp only[Ee,c8,pQ tab us c r]
theorem Av (tab:Tab)(op:BinOp)(t:Nat)(us a:List DT):eqS tab op t (erL us) (erL a)=eqS tab op t us a:=by
 have:eK tab (erL us) (erL a)=eK tab us a:=funext fun l=>pQ tab us a l
 unfold eqS;rw[this]
theorem pf (tab:Tab)(D:DSt)(op:Op):a9 mkU tab (erD D) op=(a9 mkD tab D op).map Sl.er:=by
 cases op with
 |move x=>exact bn D x
 |assign x=>exact bn D x
 |pick c x y =>
  simp only[a9,bn];cases opd mkD.nil D c with
  |none=>rfl
  |some s =>
   cases s with
   |one u =>
    cases u with
    |s k d z rows=>simp[Sl.er,aq]
    |any=>rfl
    |v b=>(cases b<;>first|rfl|skip);rename_i b;cases b<;>rfl
   |_=>rfl
 |nilCheck x =>
  simp only[a9,bn];cases opd mkD.nil D x with
  |none=>rfl
  |some s=>simp only[Ee,Eg,zi];split<;>rfl
 |binOp op t x y ty =>
  simp only[a9,bn];cases n:opd mkD.nil D x with
  |none=>rfl
  |some e =>
   cases o:opd mkD.nil D y with
   |none=>cases e with
    |one u=>cases u with
     |s k d z rows=>simp[Sl.er,aq]
     |v a=>first|rfl|(cases a<;>rfl)
     |any=>rfl
    |_=>rfl
   |some j =>
    cases e with
    |one u =>
     cases u with
     |s k d z rows=>simp[Sl.er,aq]
     |any=>rfl
     |v a =>
      cases j with
      |one v=>cases v with
       |s k d z rows=>first|(simp[Sl.er,aq,c8];done)|(cases a<;>simp[Sl.er,aq,c8])
       |any=>first|rfl|(cases a<;>rfl)
       |v b=>simp only[Ee,Sl.er,c8,E8];rfl
      |_=>first|rfl|(cases a<;>rfl)
    |agg us =>
     cases j with
     |agg w =>simp only[Ee,Sl.er,Av,E8];rfl
     |one v=>cases v<;>rfl
     |_=>rfl
    |_=>rfl
 |unOp op t x =>
  simp only[a9,bn];cases opd mkD.nil D x with
  |none=>rfl
  |some s =>
   cases s with
   |one u =>
    cases u with
    |s k d z rows=>simp[Sl.er,aq]
    |any=>rfl
    |v b=>cases b<;>first|rfl|(cases op<;>rfl)
   |_=>rfl
 |convert p dst x =>
  simp only[a9,bn];cases opd mkD.nil D x with
  |none=>rfl
  |some s =>
   cases s with
   |one u =>
    cases u with
    |s k d z rows=>simp[Sl.er,aq]
    |any=>rfl
    |v b =>
     cases b<;>first|rfl|skip
     simp only[Ee,Sl.er,c8];split<;>simp_all[Sl.er,c8]
   |_=>rfl
 |load t x =>
  simp only[a9,bn];cases opd mkD.nil D x with
  |none=>rfl
  |some s =>
   cases tab.ti t with
   |none=>rfl
   |some ti=>simp only[Ee];split<;>first|rfl|exact xV D ti s
 |fieldAddr t x f =>
  simp only[a9,bn];cases opd mkD.nil D x with
  |none=>rfl
  |some s=>simp only[Ee,Eg];exact qE tab t s f
 |indexAddr t x i =>
  simp only[a9,bn];cases n:opd mkD.nil D x with
  |none=>rfl
  |some e =>
   cases hi:opd mkD.nil D i with
   |none=>rfl
   |some q =>
    cases q with
    |one u =>
     cases u with
     |s k d z rows=>simp[Sl.er,aq]
     |any=>rfl
     |v b =>
      cases b<;>first|rfl|skip
      exact qF D tab t e _
    |_=>rfl
 |index t x y =>
  simp only[a9,bn];cases n:opd mkD.nil D x with
  |none=>rfl
  |some e =>
   cases o:opd mkD.nil D y with
   |none=>cases e with
    |one u=>cases u with
     |s k d z rows=>simp[Sl.er,aq]
     |v a=>cases a<;>rfl
     |any=>rfl
    |clo g hs=>cases g<;>rfl
    |_=>rfl
   |some j =>
    cases e with
    |clo g hs =>
     cases g with
     |fn f=>rfl
     |arr offs =>
      cases j with
      |one v=>cases v with
       |s k d z rows=>simp[Sl.er,aq]
       |any=>rfl
       |v b =>
        cases b<;>first|rfl|skip
        simp only[Ee,Sl.er,c8];split
        ·split<;>simp_all[Sl.er]
        ·rfl
      |_=>rfl
    |one u =>
     cases u with
     |s k d z rows=>simp[Sl.er,aq]
     |any=>rfl
     |v a =>
      cases a<;>first|rfl|skip
      cases j with
      |one v=>cases v with
       |s k d z rows=>simp[Sl.er,aq,c8]
       |any=>rfl
       |v b =>
        cases b<;>first|rfl|skip
        simp only[Ee,Sl.er,c8];split
        ·split<;>simp[Sl.er,c8]
        ·rfl
      |_=>rfl
    |_=>rfl
 |slice t x lo hi r =>
  cases r with
  |some m=>rfl
  |none =>
   simp only[a9,bn,wL];cases n:opd mkD.nil D x with
   |none=>rfl
   |some e =>
    cases dQ mkD.nil D lo with
    |none=>rfl
    |some l =>
     cases dQ mkD.nil D hi with
     |none=>rfl
     |some h=>exact wO D tab t e l h
 |call c=>exact za tab D c
 |_=>rfl
theorem tf (k:Kd)(d:Dec)(z lo len:Nat)(rows:List (List DT)):(T.s k (mkD.win d lo z) z ((rows.drop lo).take len):DT).er = .s k (mkU.win () lo z) z (((rows.map erL).drop lo).take len):=by rw[aq,FK,FL];try rfl
theorem dK (D:DSt)(x:Operand):cellsCopy mkU (erD D) x=(cellsCopy mkD D x).map fun p=>(p.1,erL p.2):=by
 simp only[cellsCopy,bn];cases opd mkD.nil D x with
 |none=>rfl
 |some s =>
  cases s with
  |al h c st lo len =>
   simp only[Ee,Sl.er,jT];split
   ·cases bC D h c st with
    |none=>rfl
    |some t =>
     cases t with
     |s k d z rows=>simp only[Ee,aq];rw[←tf];rfl
     |_=>rfl
   ·rfl
  |_=>rfl
theorem cg (f:DT→Bool)(g:T Unit→Bool)(h:∀t,g t.er=f t)(ts:List DT):(erL ts).all g=ts.all f:=by simp only[erL,Fc];congr 1;funext t;exact h t
theorem dj (D:DSt)(x:Operand):cellsTake mkU (erD D) x=(cellsTake mkD D x).map fun p=>(p.1,erL p.2.1,erD p.2.2):=by
 cases x with
 |tmp t =>
  simp only[cellsTake,a8];cases D[t]? with
  |none=>rfl
  |some s =>
   cases s with
   |one u=>simp only[Ee,Sl.er,bP];split<;>simp[eg]
   |agg ts =>simp only[Ee,Sl.er,cg T.noLent T.noLent cm];split<;>simp[eg]
   |al h c st lo len =>
    simp only[Ee,Sl.er,jT];split
    ·cases bC D h c st with
     |none=>rfl
     |some n =>
      cases n with
      |s k d z rows =>
       cases k with
       |own =>
        simp only[Ee,aq];rw[←gf,jn (f:=fun _=>some .any) (f':=fun _=>some .any) (fun t=>rfl)];cases bU (fun _=>some .any) (St.dead (bM h c) (qHC h c) D) h c st with
        |none=>rfl
        |some D'=>simp only[Ee];rw[←tf];rfl
       |_=>simp[aq]
      |_=>rfl
    ·rfl
   |_=>rfl
 |_=>rfl
theorem pP (D:DSt)(x:Operand)(tk:Bool):cellsOf mkU (erD D) x tk=(cellsOf mkD D x tk).map fun p=>(p.1,erL p.2.1,erD p.2.2):=by
 unfold cellsOf;split
 ·exact dj D x
 ·rw[dK];cases cellsCopy mkD D x<;>rfl
theorem lU (g:Bool)(ts:List DT):(dw g (erL ts):Option (Sl Unit Unit))=(dw g ts:Option DSl).map Sl.er:=by
 cases g with
 |true=>rfl
 |false =>
  match ts with
  |[]=>rfl
  |[t]=>rfl
  |t::u::r=>rfl
theorem eh (l:List DT)(o:Nat)(new:List DT):erL (ao l o new)=ao (erL l) o (erL new):=by simp[ao,erL,FH,FK,FL]
theorem x8 (i off:Nat)(us:List DT)(t:DT):setRow i off (erL us) t.er=(setRow i off us t).map T.er:=by
 cases t with
 |s k d z rows =>
  simp only[aq,setRow,Et];cases rows[i]? with
  |none=>rfl
  |some row =>
   simp only[Ee,Eg,EJ];split
   ·simp only[Ee,aq,F0,eh]
   ·rfl
 |_=>rfl
theorem pT (D:DSt)(p:DSl)(us:List DT):dH (erD D) p.er (erL us)=(dH D p us).map erD:=by
 cases p with
 |pb h off =>
  simp only[Sl.er,dH,a8];cases D[h]? with
  |none=>rfl
  |some s =>
   cases s with
   |box b ts =>
    simp only[Ee,Sl.er,EJ];split
    ·simp only[Ee,cN,Sl.er,eh,gf,mr]
    ·rfl
   |_=>rfl
 |pe h c st i off =>
  simp only[Sl.er,dH,cg T.fine T.fine lQ,fe];split
  ·cases am D h c with
   |none=>rfl
   |some t =>
    simp only[Ee,bP,lS];split
    ·cases getN t st with
     |none=>rfl
     |some n =>
      cases n with
      |s k d z rows =>
       simp only[Ee,aq,Et];cases rows[i]? with
       |none=>rfl
       |some row =>
        simp only[Ee,EJ];split
        ·have e:(((erL row).drop off).take us.length).all T.flat=((row.drop off).take us.length).all T.flat:=by rw[←cg T.flat T.flat lR];simp[erL,FK,FL]
         rw[e, ←gf];exact jn (fun t=>x8 i off us t) _ h c st
        ·rfl
      |_=>rfl
    ·rfl
  ·rfl
 |_=>rfl
theorem wP (tab:Tab)(D:DSt)(t:Nat)(p x:Operand)(tk:Bool):jE mkU tab (erD D) t p x tk=(jE mkD tab D t p x tk).map erD:=by
 simp only[jE,pP];cases tab.ti t with
 |none=>rfl
 |some ti =>
  cases cellsOf mkD D x tk with
  |none=>rfl
  |some r =>
   obtain⟨g,us,D1⟩:=r;simp only[Ee,EJ];split
   ·rw[bn];cases opd mkD.nil D1 p with
    |none=>rfl
    |some q=>simp only[Ee,Eg];exact pT D1 q us
   ·rfl
theorem s7 (t:T Unit):(t.inj nilD).er=t.inj ():=by
 cases t with
 |s k d z rows=>simp[T.inj,aq]
 |_=>rfl
theorem wG (w:World)(tab:Tab)(D:DSt)(dst:Option Nat)(t:Nat):iv mkU frU tab (erD D) dst t=(iv mkD (frD w) tab D dst t).map erD:=by
 simp only[iv];cases tab.ti t with
 |none=>rfl
 |some ti =>
  cases dst with
  |none=>rfl
  |some d =>
   simp only[ch];split
   ·simp only[Ee,bf,Sl.er,erL,ES];have e:ti.zero.map (T.inj mkU.nil)=ti.zero.map (T.er ∘ T.inj mkD.nil):=EM fun t _=>(s7 t).symm
    rw[e]
   ·rfl
theorem y6 (w:World)(D:DSt)(dst:Option Nat)(x:Operand)(tk:Bool):ox mkU frU (erD D) dst x tk=(ox mkD (frD w) D dst x tk).map erD:=by
 simp only[ox,pP];cases cellsOf mkD D x tk with
 |none=>rfl
 |some r =>
  obtain⟨g,us,D1⟩:=r;cases dst with
  |none=>rfl
  |some d =>
   simp only[Ee,ch];split
   ·simp only[Ee,bf,Sl.er];try rfl
   ·rfl
theorem oK (D:DSt)(x:Operand)(dst:Option Nat):
  ((cellsTake mkU (erD D) x).bind fun r=>match dst with|some t=>if t<r.2.2.length then(dw r.1 r.2.1).map fun s=>aE r.2.2 (some t) s else none|none=>none)=
   ((cellsTake mkD D x).bind fun r=>match dst with|some t=>if t<r.2.2.length then(dw r.1 r.2.1).map fun s=>aE r.2.2 (some t) s else none|none=>none).map erD:=by
 rw[dj];cases cellsTake mkD D x with
 |none=>rfl
 |some r =>
  obtain⟨g,us,D1⟩:=r;cases dst with
  |none=>rfl
  |some d =>
   simp only[Ee,Eg,ch,lU];split
   ·cases(dw g us:Option DSl)with
    |none=>rfl
    |some s=>simp only[Ee,bf]
   ·rfl
theorem uW (tab:Tab)(D:DSt)(t:Nat)(x:Operand):fm mkU tab (erD D) t x=(fm mkD tab D t x).map fun r=>(r.1,erL r.2.1,erD r.2.2):=by
 unfold fm;rw[bn];cases tab.ti t with
 |none=>rfl
 |some ti =>
  cases a:opd mkD.nil D x with
  |none=>rfl
  |some s =>
   cases s with
   |pb h off =>
    cases off with
    |zero =>
     simp only[Ee,Sl.er,a8];cases D[h]? with
     |none=>rfl
     |some u =>
      cases u with
      |box b ts =>
       simp only[Ee,Sl.er,EJ];have e:(erL ts).all T.noLent=ts.all T.noLent:=by
        rw[Fc];congr 1;funext u;cases u with
        |s k d z r=>cases k<;>simp[aq,T.noLent]
        |_=>rfl
       rw[e];split
       ·simp[eg]
       ·rfl
      |_=>rfl
    |succ n=>rfl
   |one u=>simp[Sl.er]
   |_=>rfl
theorem uV (tab:Tab)(D:DSt)(t:Nat)(x:Operand)(dst:Option Nat):
  ((fm mkU tab (erD D) t x).bind fun r=>match dst with|some t=>if t<r.2.2.length then(dw r.1 r.2.1).map fun s=>aE r.2.2 (some t) s else none|none=>none)=
   ((fm mkD tab D t x).bind fun r=>match dst with|some t=>if t<r.2.2.length then(dw r.1 r.2.1).map fun s=>aE r.2.2 (some t) s else none|none=>none).map erD:=by
 rw[uW];cases fm mkD tab D t x with
 |none=>rfl
 |some r =>
  obtain⟨g,us,D1⟩:=r;cases dst with
  |none=>rfl
  |some d =>
   simp only[Ee,Eg,ch,lU];split
   ·cases(dw g us:Option DSl)with
    |none=>rfl
    |some s=>simp only[Ee,bf]
   ·rfl
theorem fI (tab:Tab)(D:DSt)(op:Op)(dst:Option Nat):((a9 mkU tab (erD D) op).bind fun s=>ck (erD D) dst s)=((a9 mkD tab D op).bind fun s=>ck D dst s).map erD:=by
 rw[pf];cases a9 mkD tab D op with
 |none=>rfl
 |some s=>simp only[Ee,Eg];exact iy D dst s
theorem nu (D:DSt)(z:Nat):∀(a:List (Nat×Operand))(rows:List (List DT)),fc mkU (erD D) z a (rows.map erL)=(fc mkD D z a rows).map (List.map erL)
 |[],rows=>rfl
 |(i,x)::r,rows=>by
  simp only[fc,dK];cases cellsCopy mkD D x with
  |none=>rfl
  |some b =>
   obtain⟨g,us⟩:=b;simp only[Ee,EJ,cg T.fine T.fine lQ];split
   ·have e:(rows.map erL).set i (erL us)=(rows.set i us).map erL:=by rw[F0]
    rw[e];exact nu D z r _
   ·rfl
theorem ii (ti:TI):ti.zero.map (T.inj mkU.nil)=erL (ti.zero.map (T.inj mkD.nil)):=by simp only[erL,ES];exact EM fun t _=>(s7 t).symm
theorem k9 (w:World)(tab:Tab)(D:DSt)(dst:Option Nat)(t len:Nat)(a:List (Nat×Operand)):cr mkU frU tab (erD D) dst t len a=(cr mkD (frD w) tab D dst t len a).map erD:=by
 unfold cr;split
 ·rename_i sz c h e d f;cases tab.ti e with
  |none=>rfl
  |some b =>
   simp only[ch];split
   ·have g:List.replicate len (b.zero.map (T.inj mkU.nil))=(List.replicate len (b.zero.map (T.inj mkD.nil))).map erL:=by rw[Gs,ii]
    rw[g,nu];cases fc mkD D b.size a (List.replicate len (b.zero.map (T.inj mkD.nil)))with
    |none=>rfl
    |some rows=>simp only[Ee,bf,Sl.er,aq]
   ·rfl
 ·rfl
theorem wK (s:DSl):intOfSl s.er=intOfSl s:=by
 cases s with
 |one u =>
  cases u with
  |s k d z r=>simp[Sl.er,aq,intOfSl]
  |v x=>cases x<;>rfl
  |any=>rfl
 |_=>rfl
theorem s9 (D:DSt)(x:Operand):(opd mkU.nil (erD D) x).bind intOfSl=(opd mkD.nil D x).bind intOfSl:=by
 rw[bn];cases opd mkD.nil D x with
 |none=>rfl
 |some s=>exact wK s
theorem lT (w:World)(tab:Tab)(D:DSt)(dst:Option Nat)(t:Nat)(l c:Operand):ct mkU frU tab (erD D) dst t l c=(ct mkD (frD w) tab D dst t l c).map erD:=by
 unfold ct;rw[s9,s9];split
 ·rename_i sz b h e d n k f i hc;cases tab.ti e with
  |none=>rfl
  |some a =>
   simp only[ch];split
   ·split
    ·have g:List.replicate n.toNat (a.zero.map (T.inj mkU.nil))=(List.replicate n.toNat (a.zero.map (T.inj mkD.nil))).map erL:=by rw[Gs,ii]
     rw[g];simp only[Ee,bf,Sl.er,aq]
    ·rfl
   ·rfl
 ·rfl
theorem z5 (t:DT):t.hole.er=t.er.hole:=by
 cases t with
 |s k d z r=>cases k<;>simp[T.hole,aq,lP]
 |_=>rfl
theorem sX (D:DSt)(dst:Option Nat)(x:Operand)(i:Nat):iA (erD D) dst x i=(iA D dst x i).map erD:=by
 cases x with
 |tmp t =>
  cases dst with
  |none=>rfl
  |some d =>
   simp only[iA,a8];cases D[t]? with
   |none=>rfl
   |some s =>
    cases s with
    |tup rs =>
     simp only[Ee,Sl.er,Et];cases rs[i]? with
     |none=>rfl
     |some r =>
      obtain⟨g,ts⟩:=r;simp only[Ee,ch,cg T.noLent T.noLent cm];split
      ·rw[lU];cases(dw g ts:Option DSl)with
       |none=>rfl
       |some s =>
        simp only[Ee,bf,cN,Sl.er,F0];have e:erL (ts.map T.hole)=(erL ts).map T.hole:=by simp only[erL,ES];exact EM fun t _=>z5 t
        rw[e]
      ·rfl
    |_=>rfl
 |_=>cases dst<;>rfl
theorem fA (D:DSt)(pl:List (Nat×Nat)):∀(a:List (Nat×Operand))(ts:List DT),bm mkU (erD D) pl a (erL ts)=(bm mkD D pl a ts).map erL
 |[],ts=>rfl
 |(i,x)::r,ts=>by
  simp only[bm,dK];cases pl[i]? with
  |none=>rfl
  |some q =>
   obtain⟨off,size⟩:=q;cases cellsCopy mkD D x with
   |none=>rfl
   |some b =>
    obtain⟨g,us⟩:=b;simp only[Ee,EJ];split
    ·rw[←eh];exact fA D pl r _
    ·rfl
theorem pO (tab:Tab)(D:DSt)(t:Nat)(a:List (Nat×Operand)):gt mkU tab (erD D) t a=(gt mkD tab D t a).map Sl.er:=by
 simp only[gt];cases tab.ti t with
 |none=>rfl
 |some ti =>
  cases tab.pl t with
  |none=>rfl
  |some pl =>
   have e:ti.zero.map (T.inj mkU.nil)=erL (ti.zero.map (T.inj mkD.nil)):=by simp only[erL,ES];exact EM fun t _=>(s7 t).symm
   simp only;rw[e,fA];cases bm mkD D pl a (ti.zero.map (T.inj mkD.nil))<;>rfl
theorem mu (D:DSt)(x:Operand):fH (erD D) x=fH D x:=by
 cases x with
 |tmp t =>
  simp only[fH,a8];cases D[t]? with
  |none=>rfl
  |some s =>
   cases s with
   |pb h off=>cases off<;>rfl
   |_=>rfl
 |_=>rfl
theorem oJ (D:DSt):∀(xs:List Operand),ie (erD D) xs=ie D xs
 |[]=>rfl
 |x::xs=>by simp only[ie,mu,oJ D xs]
theorem y9 (D:DSt)(f:FuncId)(xs:List Operand):mo (erD D) f xs=(mo D f xs).map Sl.er:=by unfold mo;rw[oJ,E8];rfl
theorem wF (rows:List (List DT)):(rows.map erL).all (fun r=>r.all T.flat)=rows.all (fun r=>r.all T.flat):=by rw[Fc];congr 1;funext r;show(erL r).all T.flat=_;rw[Fc];congr 1;funext t;exact lR t
theorem zY (D:DSt)(b:Bool)(x:Operand):mn mkU (erD D) b x=(mn mkD D b x).map fun p=>(p.1,p.2.1.map erL,erD p.2.2):=by
 unfold mn;cases b with
 |true =>
  simp only[dK];cases cellsCopy mkD D x with
  |none=>rfl
  |some r =>
   obtain⟨g,ts⟩:=r;cases g with
   |true=>rfl
   |false =>
    match ts with
    |[]=>rfl
    |[.v v]=>rfl
    |[.any]=>rfl
    |u::v::r=>(cases u with|s k d z e=>simp[aq]|_=>rfl)
    |[.s j f i a]=>simp only[Ee,EB,E6,aq,wF];split<;>rfl
 |false =>
  simp only[dj];cases cellsTake mkD D x with
  |none=>rfl
  |some r =>
   obtain⟨g,ts,l⟩:=r;cases g with
   |true=>rfl
   |false =>
    match ts with
    |[]=>rfl
    |[.v v]=>rfl
    |[.any]=>rfl
    |[.s .far d z rows]=>simp[aq]
    |[.s (.lent h c b) d z rows]=>simp[aq]
    |u::v::r=>(cases u with|s k d z e=>(cases k<;>simp[aq])|_=>rfl)
    |[.s .own f i a]=>simp[aq]
theorem uQ (w:World)(tab:Tab)(D:DSt)(dst:Option Nat)(t f:Nat)(s x:Operand):ga mkU frU tab (erD D) dst t f s x=(ga mkD (frD w) tab D dst t f s x).map erD:=by
 unfold ga;rw[dj];cases hs:cellsTake mkD D s with
 |none =>
  cases tab.ti t with
  |none=>rfl
  |some ti =>
   obtain⟨_,_,_,sh⟩:=ti;cases sh<;>try rfl
   cases tab.ti f with
   |none=>rfl
   |some a =>
    obtain⟨_,_,_,b⟩:=a;cases b<;>try rfl
    cases dst<;>rfl
 |some r =>
  obtain⟨g,ts,D1⟩:=r;cases tab.ti t with
  |none=>rfl
  |some ti =>
   obtain⟨_,_,_,sh⟩:=ti;cases sh<;>try rfl
   rename_i e;cases tab.ti f with
   |none=>rfl
   |some a =>
    obtain⟨_,_,_,b⟩:=a;cases b<;>try rfl
    cases dst with
    |none=>rfl
    |some m =>
     cases g with
     |true=>rfl
     |false =>
      match ts with
      |[]=>rfl
      |[.v v]=>rfl
      |[.any]=>rfl
      |[.s .far d z rows]=>simp[aq]
      |[.s (.lent h c n) d z rows]=>simp[aq]
      |u::v::r=>(cases u with|s k d z o=>(cases k<;>simp[aq])|_=>rfl)
      |[.s .own d z rows]=>
       simp only[Ee,EB,E6,aq];cases tab.ti e with
       |none=>rfl
       |some j =>
        simp only[zY];cases mn mkD D1 (j.zero.all T.flat) x with
        |none=>rfl
        |some l =>
         obtain⟨p,i,q⟩:=l;simp only[Ee,ch,EJ];split
         ·split
          ·simp only[Ee,bf,Sl.er,aq,FH]
          ·rfl
         ·rfl
theorem nw:∀(rows:List (List DT)),ci (rows.map erL)=ci rows
 |[]=>rfl
 |r::rs=>by
  match r with
  |[]=>rfl
  |u::v::q =>
   cases u with
   |v x =>
    cases x with
    |int k n=>cases k<;>simp[ci,c8]
    |_=>simp[ci,c8]
   |any=>simp[ci,lP]
   |s k d z r=>simp[ci,aq]
  |[.any]=>rfl
  |[.s k d z rows]=>simp[aq,ci]
  |[.v (.int .u8 n)]=>simp only[EB,E6,c8,ci,nw rs]
  |[.v x]=>
   cases x with
   |int k n=>cases k<;>first|rfl|simp only[EB,E6,c8,ci,nw rs]
   |_=>rfl
theorem uS (tab:Tab)(D:DSt)(a dst:Nat)(x:Operand):gd mkU tab (erD D) a dst x=(gd mkD tab D a dst x).map (List.map erL):=by
 unfold gd;rw[dK];cases tab.ti a with
 |none=>rfl
 |some ti =>
  obtain⟨_,_,_,sh⟩:=ti;cases sh<;>try rfl
  rename_i e;cases tab.ti dst with
  |none=>rfl
  |some b =>
   obtain⟨_,_,_,c⟩:=b;cases c<;>try rfl
   cases cellsCopy mkD D x with
   |none=>rfl
   |some r =>
    obtain⟨g,ts⟩:=r;cases g with
    |true=>rfl
    |false =>
     match ts with
     |[]=>rfl
     |[.v v]=>rfl
     |[.any]=>rfl
     |u::v::r=>(cases u with|s k d z f=>simp[aq]|_=>rfl)
     |[.s k d z rows]=>
      simp only[Ee,EB,E6,aq];by_cases hz:z=1
      ·subst hz;simp only;split
       ·rfl
       ·rfl
      ·simp[hz]
theorem pU (D:DSt)(x:Operand):ef (erD D) x=(ef D x).map (List.map fun r=>(r.1,erL r.2)):=by
 unfold ef;cases x with
 |tmp t =>
  simp only[a8];cases D[t]? with
  |none=>rfl
  |some s =>
   cases s with
   |tup rs =>
    simp only[Ee,Sl.er];have a:((rs.map fun r=>(r.1,erL r.2)).all fun r=>r.2.all T.flat)=rs.all fun r=>r.2.all T.flat:=by rw[Fc];congr 1;funext r;show(erL r.2).all T.flat=_;rw[Fc];congr 1;funext u;exact lR u
    have b:(rs.map fun r=>(r.1,erL r.2))≠[]↔rs≠[]:=by cases rs<;>simp
    by_cases h:(rs.all fun r=>r.2.all T.flat)=true∧rs≠[]
    ·rw[Ej h,Ej ⟨a.trans h.1,b.2 h.2⟩];rfl
    ·rw[Eu h,Eu (fun g=>h ⟨a.symm.trans g.1,b.1 g.2⟩)];rfl
   |_=>rfl
 |_=>rfl
theorem wR (D:DSt)(x:Operand)(dst:Option Nat):gH (erD D) x dst=(gH D x dst).map erD:=by
 cases x with
 |tmp t =>
  cases dst with
  |none=>rfl
  |some d =>
   simp only[gH,a8];cases D[t]? with
   |none=>rfl
   |some s =>
    cases s with
    |tup rs =>
     simp only[Ee,Sl.er,ch];have a:((rs.map fun r=>(r.1,erL r.2)).all fun r=>r.2.all T.noLent)=rs.all fun r=>r.2.all T.noLent:=by rw[Fc];congr 1;funext r;exact cg T.noLent T.noLent cm r.2
     rw[a];split
     ·simp only[Ee,bf,cN,Sl.er]
     ·rfl
    |_=>rfl
 |_=>cases dst<;>rfl
theorem wQ (s:GM):(ed s:List (List DT)).map erL=ed s:=by unfold ed;rw[ES];exact EM fun b _=>by simp[c8]
theorem rM (w:World)(tab:Tab)(D:DSt)(dst:Option Nat)(a t:Nat)(x:Operand):dh mkU frU tab (erD D) dst a t x=(dh mkD (frD w) tab D dst a t x).map erD:=by
 unfold dh;rw[bn];cases tab.ti a with
 |none=>rfl
 |some ti =>
  obtain⟨_,_,_,sh⟩:=ti;cases sh<;>try rfl
  cases tab.ti t with
  |none=>rfl
  |some b =>
   obtain⟨_,_,_,c⟩:=b;cases c<;>try rfl
   rename_i e;cases dst with
   |none=>rfl
   |some d =>
    cases f:opd mkD.nil D x with
    |none=>rfl
    |some s =>
     cases s with
     |one u =>
      cases u with
      |v y =>
       cases y with
       |string s =>
        simp only[Ee,Sl.er,c8,ch];split
        ·split
         ·simp only[Ee,bf,Sl.er,aq,wQ]
         ·rfl
        ·rfl
       |_=>rfl
      |any=>rfl
      |s k g z r=>simp[Sl.er,aq]
     |_=>rfl
theorem uZ (tab:Tab)(D:DSt)(t:Nat)(p:Operand)(z:Nat):iu mkU tab (erD D) t p z=(iu mkD tab D t p z).map erD:=by
 unfold iu;cases tab.ti t with
 |none=>rfl
 |some ti =>
  simp only;split
  ·rw[bn];cases opd mkD.nil D p with
   |none=>rfl
   |some a=>exact pT D a [.s .own nilD z []]
  ·rfl
theorem wM (us:List DT):(erL us).all (fun u=>u.isOwn ||u.flat)=us.all (fun u=>u.isOwn ||u.flat):=by show(us.map T.er).all _=_;rw[Fc];congr 1;funext u;show(u.er.isOwn ||u.er.flat)=_;rw[bP,lR]
theorem qD (w:World)(tab:Tab)(D:DSt)(dst:Option Nat)(t len:Nat)(a:List (Nat×Operand)):ey mkU frU tab (erD D) dst t len a=(ey mkD (frD w) tab D dst t len a).map erD:=by
 unfold ey;split
 ·rename_i sz b f e d x c;simp only[dj];cases tab.ti e with
  |none=>rfl
  |some h =>
   cases cellsTake mkD D x with
   |none=>rfl
   |some r =>
    obtain⟨g,us,D1⟩:=r;simp only[Ee,ch,EJ,wM];split
    ·simp only[Ee,bf,Sl.er,aq,EB,E6]
    ·rfl
 ·rfl
theorem xR (tab:Tab)(D:DSt)(dst:Option Nat)(t:Nat)(a:List (Nat×Operand)):iK mkU tab (erD D) dst t a=(iK mkD tab D dst t a).map erD:=by
 unfold iK;split
 ·rename_i ti pl i x r d b c;simp only[dj];cases pl[i]? with
  |none=>rfl
  |some os =>
   obtain⟨off,size⟩:=os;cases cellsTake mkD D x with
   |none=>rfl
   |some q =>
    obtain⟨g,us,D1⟩:=q;simp only[Ee,ch,EJ];split
    ·have e:ao (ti.zero.map (T.inj mkU.nil)) off (erL us)=erL (ao (ti.zero.map (T.inj mkD.nil)) off us):=by rw[ii,eh]
     rw[e,fA];cases bm mkD D1 pl r (ao (ti.zero.map (T.inj mkD.nil)) off us)with
     |none=>rfl
     |some ts=>simp only[Ee,bf,Sl.er]
    ·rfl
 ·rfl
theorem mv (D:DSt)(x:Operand):d4 (erD D) x=d4 D x:=by
 cases x with
 |tmp t =>
  simp only[d4,a8];cases D[t]? with
  |none=>rfl
  |some s =>
   simp only[Ee];have a:∀ts:List DT,(erL ts).any T.isOwn=ts.any T.isOwn:=fun ts=>by rw[erL,Gm];congr 1;funext t;exact bP t
   cases s with
   |one t=>exact bP t
   |agg ts=>exact a ts
   |tup rs =>simp only[Sl.er,Sl.isHome,Gm];congr 1;funext r;exact a r.2
   |_=>rfl
 |_=>rfl
theorem wH (tab:Tab)(D:DSt)(dst:Option Nat)(t:Nat)(a:List (Nat×Operand)):kr mkU tab (erD D) dst t a=(kr mkD tab D dst t a).map erD:=by
 unfold kr;simp only[mv];split
 ·rename_i ti pl i x r d c e f;simp only[dj,ii,fA];cases pl[i]? with
  |none=>rfl
  |some os =>
   obtain⟨off,size⟩:=os;cases cellsTake mkD D x with
   |none=>rfl
   |some q =>
    obtain⟨g,us,D1⟩:=q;cases bm mkD D pl (a.takeWhile (fun p => !d4 D p.2)) (ti.zero.map (T.inj mkD.nil))with
    |none=>rfl
    |some b =>
     simp only[Ee,ch,EJ,cg T.noLent T.noLent cm];split
     ·rw[←eh,fA];cases bm mkD D1 pl r (ao b off us)with
      |none=>rfl
      |some ts=>simp only[Ee,bf,Sl.er]
     ·rfl
 ·rfl
theorem nt (pl:List (Nat×Nat)):∀(a:List (Nat×Operand))(D:DSt)(ts:List DT),gN mkU pl a (erD D) (erL ts)=(gN mkD pl a D ts).map fun r=>(erL r.1,erD r.2)
 |[],D,ts=>rfl
 |(i,x)::r,D,ts=>by
  have b:∀us:List DT,(erL us).all T.noLent=us.all T.noLent:=fun us=>cg T.noLent T.noLent cm us
  have hz:∀us:List DT,(erL us).length=us.length:=fun us=>EJ _
  simp only[gN,mv,dj,dK];cases pl[i]? with
  |none=>rfl
  |some os =>
   obtain⟨off,size⟩:=os;simp only;split
   ·cases cellsTake mkD D x with
    |none=>rfl
    |some p =>
     obtain⟨g,us,D1⟩:=p;simp only[Ee,b,hz];split
     ·rw[←eh,nt pl r D1]
     ·rfl
   ·cases cellsCopy mkD D x with
    |none=>rfl
    |some p =>
     obtain⟨g,us⟩:=p;simp only[Ee,b,hz];split
     ·rw[←eh,nt pl r D]
     ·rfl
theorem xQ (tab:Tab)(D:DSt)(dst:Option Nat)(t:Nat)(a:List (Nat×Operand)):lO mkU tab (erD D) dst t a=(lO mkD tab D dst t a).map erD:=by
 unfold lO;cases tab.ti t with
 |none=>rfl
 |some ti =>
  cases tab.pl t with
  |none=>rfl
  |some pl =>
   cases dst with
   |none=>rfl
   |some d =>
    simp only;have b:(ti.zero.map (T.inj mkU.nil))=erL (ti.zero.map (T.inj mkD.nil)):=ii ti;rw[b,cg T.noLent T.noLent cm,nt];split
    ·cases gN mkD pl a D (ti.zero.map (T.inj mkD.nil))with
     |none=>rfl
     |some p =>
      obtain⟨ts,D'⟩:=p;simp only[Ee,ch];split
      ·simp only[Ee,bf];rfl
      ·rfl
    ·rfl
theorem wI (tab:Tab)(D:DSt)(dst:Option Nat)(t:Nat)(a:List (Nat×Operand)):iw mkU tab (erD D) dst t a=(iw mkD tab D dst t a).map erD:=by
 unfold iw;rw[xR,wH,xQ];have h:oz (erD D) a=oz D a:=by unfold oz;simp only[mv]
 rw[h];split
 ·rfl
 ·cases iK mkD tab D dst t a<;>rfl
theorem zl (w:World)(tab:Tab)(D:DSt)(o:Oper)(tk:Bool):bQ mkU frU tab (erD D) o tk=(bQ mkD (frD w) tab D o tk).map erD:=by
 obtain⟨dst,op,ty,pos,after,guard⟩:=o;cases op with
 |store t p x =>
  cases dst with
  |none =>
   simp only[bQ];cases kO tab t x with
   |some z=>exact uZ tab D t p z
   |none=>exact wP tab D t p x tk
  |some d=>rfl
 |alloc t=>exact wG w tab D dst t
 |box t x=>exact y6 w D dst x tk
 |move x =>
  simp only[bQ];cases kO tab ty x with
  |some z=>exact iy D dst (.one (.s .own nilD z []))
  |none =>
   simp only[pU];cases ef D x with
   |some rs=>exact iy D dst (.tup rs)
   |none =>
    cases tk with
    |true =>
     simp only[EV,wR];cases gH D x dst with
     |some D'=>rfl
     |none=>exact oK D x dst
    |false=>exact fI tab D (.move x) dst
 |assign x =>
  simp only[bQ];cases kO tab ty x with
  |some z=>exact iy D dst (.one (.s .own nilD z []))
  |none =>
   cases tk with
   |true=>exact oK D x dst
   |false=>exact fI tab D (.assign x) dst
 |load t x =>
  cases tk with
  |true=>exact uV tab D t x dst
  |false=>exact fI tab D (.load t x) dst
 |extract x i=>exact sX D dst x i
 |buildSlice t len a =>
  cases tk with
  |true=>exact qD w tab D dst t len a.toList
  |false=>exact k9 w tab D dst t len a.toList
 |makeSlice t l c=>exact lT w tab D dst t l c
 |call c =>
  simp only[bQ];cases lL c with
  |none=>exact fI tab D (.call c) dst
  |some q =>obtain⟨t,e,s,x⟩:=q;exact uQ w tab D dst t e s x
 |convert b d x =>
  simp only[bQ];rw[uS];cases gd mkD tab D b d x with
  |none =>
   simp only[GH];rw[rM w];cases dh mkD (frD w) tab D dst b d x with
   |none=>exact fI tab D (.convert b d x) dst
   |some g=>rfl
  |some rows =>
   simp only[Ee,nw];cases ci rows with
   |none=>rfl
   |some xs=>simp only[Eg];exact iy D dst (.one (.v (.string (strOfNums xs))))
 |makeFunc fn first caps =>
  cases fn with
  |func f =>
   simp only[bQ];split
   ·rw[y9];cases mo D f caps.toList with
    |none=>rfl
    |some s=>simp only[Ee,Eg];exact iy D dst s
   ·rfl
  |_=>rfl
 |build t a =>
  cases tk with
  |true=>exact wI tab D dst t a.toList
  |false =>
   simp only[bQ,EE,E3,pO];cases gt mkD tab D t a.toList with
   |none=>rfl
   |some s=>simp only[Ee,Eg];exact iy D dst s
 |_=>simp only[bQ];exact fI tab D _ dst
section
variable  {δ β : Type}
def jG (D:St δ β):List Nat→Option (List (β×List (T δ)))
 |[]=>some []
 |h::hs=>match D[h]? with|some (.box b ts)=>(jG D hs).map fun r=>(b,ts.map (T.view .far))::r|_=>none
def ims (caps:List (β×List (T δ))):List (Sl δ β):=caps.map fun p=>.im .far p.1 p.2 0
def argOf (M:Mk δ β)(D:St δ β)(x:Operand):Option (Sl δ β):=
 match opd M.nil D x with
 |some (.im _ b ts off)=>some (.im .far b ts off)
 |some (.pb h off)=>match D[h]? with|some (.box b ts)=>some (.im .far b (ts.map (T.view .far)) off)|_=>none
 |some (.fni f caps)=>some (.fni f caps)
 |some (.pe _ _ _ _ _)=>none
 |some (.clo (.fn f) hs)=>(jG D hs).map (.fni f ·)
 |_=>(cellsCopy M D x).bind fun p=>dw p.1 (p.2.map (T.view .far))
def argsOf (M:Mk δ β)(D:St δ β):List Operand→Option (List (Sl δ β))|[]=>some []|x::xs=>(argOf M D x).bind fun s=>(argsOf M D xs).map fun r=>s::r
end
def Out (cx:Cx)(D:DSt)(X:List Nat):Prop:=∀b∈X,cx.may b∧aO D b=0
theorem Out.nil (cx:Cx)(D:DSt):Out cx D []:=fun b h=>by cases h
structure AOk (w:World)(X:List Nat)(Y:Nat→Prop)(a:DSl)(y:Value):Prop where
 val:∀D,VS D a y
 mem:MemS w a
 kind:∀D,cl ⟨w,X,Y⟩ D a
 own:∀b∈ownBl a,b∈X∧b<w.heap.size
theorem fD {a:DSl}(h:a.isHome=false):ownBl a=[]:=by
 cases a with
 |one t=>exact cD h
 |agg ts =>
  show ts.flatMap ownR=[];rw[Ey];intro t c;refine cD ?_;cases d:t.isOwn with
  |false=>rfl
  |true =>have:ts.any T.isOwn=false:=h;rw[F4]at this;exact absurd d (this t c)
 |box b ts=>cases h
 |tup rs =>
  show(rs.flatMap fun r=>r.2.flatMap ownR)=[];have e:(rs.any fun r=>r.2.any T.isOwn)=false:=h;rw[F4]at e;rw[Ey];intro r f;rw[Ey];intro t c;refine cD ?_;cases d:t.isOwn with
  |false=>rfl
  |true=>exact absurd (Fw.2 ⟨t,c,d⟩) (e r f)
 |_=>rfl
theorem eB {w:World}{X:List Nat}{a:DSl}(h:ownBl a=[]):∀b∈ownBl a,b∈X∧b<w.heap.size:=fun b hb=>by rw[h]at hb;cases hb
theorem A1 {w:World}{b:Nat}(h:b<w.heap.size):(Cx.mk w [] noY).far b:=⟨⟨h,by simp⟩,id⟩
theorem Inv.farX {cx:Cx}{D:DSt}{P:List (DT×Value)}{tm:Array Value}{w:World}(I:Inv cx D P tm w){X:List Nat}(a:Out cx D X){b:Nat}(h:cx.far b):(Cx.mk w X noY).far b :=
 ⟨⟨EU h.1.1 I.frame.size,fun hb=>Cx.far_not h (a b hb).1⟩,id⟩
theorem Inv.farY {cx:Cx}{D:DSt}{P:List (DT×Value)}{tm:Array Value}{w:World}(I:Inv cx D P tm w){X:List Nat}(a:Out cx D X){Y:Nat→Prop}(c:∀b,cx.far b→¬Y b){b:Nat}(h:cx.far b):(Cx.mk w X Y).far b :=
 ⟨(I.farX a h).1,c b h⟩
theorem yt (t:DT):(t.view .far).isOwn=false:=by cases t<;>rfl
theorem AOk.views {w:World}{X:List Nat}{Y:Nat→Prop}{ts:List DT}{ys:List Value}{g:Bool}{y:Value}{s:DSl}(hv:VCells ts ys)(hh:∀t∈ts,Holds w t)(hb:∀t∈ts,∀b∈bl t,(Cx.mk w X Y).far b)
  (j:bd g y ys) (hs:dw g (ts.map (T.view .far))=some s):AOk w X Y s y∧s.isHome=false:=by
 have l:∀D,∀t∈ts.map (T.view .far),aS ⟨w,X,Y⟩ D t:=by
  intro D t a;obtain⟨u,c,rfl⟩:=Ex.1 a;cases u with
  |v x=>trivial
  |any=>trivial
  |s k d z r=>exact fun x m=>hb _ c x (by rw[bR]at m ⊢;exact m)
 have n:∀t∈ts.map (T.view .far),Holds w t:=by intro t a;obtain⟨u,c,rfl⟩:=Ex.1 a;exact gr (hh u c)
 have f:∀t∈ts.map (T.view .far),t.isOwn=false:=by intro t a;obtain⟨u,c,rfl⟩:=Ex.1 a;exact yt u
 have o:VCells (ts.map (T.view .far)) ys:=by refine⟨by simpa using hv.1,fun i t y hi j=>?_⟩;rw[Et,Ei]at hi;obtain⟨u,c,rfl⟩:=hi;exact kq.2 (hv.2 i u y c j)
 have p:(ts.map (T.view .far)).flatMap ownR=[]:=by rw[Ey];intro t a;exact cD (f t a)
 generalize ts.map (T.view .far)=us at *;unfold dw at hs;split at hs
 ·cases hs;refine⟨⟨fun D=>⟨ys.toArray,by simpa[bd]using j,by simpa using o⟩,⟨n,fun t a h=>?_,trivial⟩,fun D t a=>l D t a,eB p⟩,by show us.any T.isOwn=false;rw[F4];exact fun t a=>by rw[f t a];exact E5⟩;rw[f t a]at h;cases h
 ·rename_i t;cases hs;have e:ys=[y]:=by simpa[bd]using j
  subst e;refine⟨⟨fun D=>o.2 0 t y rfl rfl,⟨fun u c=>n u (by simpa[af]using c),fun u c h=>?_,trivial⟩,fun D u c=>l D u (by simpa[af]using c),eB (by simpa[ownBl]using p)⟩,f _ (EN _)⟩;have:=f u (by simpa[rootsO]using c);rw[this]at h;cases h
 ·cases hs
theorem Inv.out_kind {cx:Cx}{D:DSt}{P:List (DT×Value)}{tm:Array Value}{w:World}(I:Inv cx D P tm w){X:List Nat}(a:Out cx D X){t:DT}(e:aS cx D t)(f:t.isOwn=false):∀b∈bl t,(Cx.mk w X noY).far b:=by
 intro b hb;cases t with
 |v x=>simp[bl]at hb
 |any=>simp[bl]at hb
 |s k d z r =>
  cases k with
  |own=>cases f
  |far=>exact I.farX a (e b hb)
  |lent h c p =>obtain⟨t',g,i,j,l⟩:=e;obtain⟨s,u,m,y,n,o⟩:=be g;have A:=br (b:=b) m (o i b (j b hb));exact⟨⟨(I.bnd b (by omega)).2,fun q=>by have:=(a b q).2;omega⟩,id⟩
theorem Inv.out_own {cx:Cx}{D:DSt}{P:List (DT×Value)}{tm:Array Value}{w:World}(I:Inv cx D P tm w){X:List Nat}(a:Out cx D X){s:DSl}(hs:s∈D){b:Nat}(hb:b∈ownBl s):(Cx.mk w X noY).far b:=by have c:=br (b:=b) hs hb;exact⟨⟨(I.bnd b (by omega)).2,fun q=>by have:=(a b q).2;omega⟩,id⟩
theorem pH {D:DSt}:∀{hs:List Nat}{caps:List ((Nat×Nat)×List DT)},jG D hs=some caps→caps.length=hs.length ∧
  ∀(i h:Nat),hs[i]?=some h→∃(b:Nat×Nat) (ts:List DT),D[h]?=some (.box b ts)∧caps[i]?=some (b,ts.map (T.view .far))
 |[],caps,h=>by cases h;exact⟨rfl,fun i h e=>by simp at e⟩
 |h::hs,caps,e=>by
  unfold jG at e;split at e
  ·rename_i b ts hb;rw[Ei]at e;obtain⟨r,a,rfl⟩:=e;obtain⟨c,d⟩:=pH a;refine⟨by simp[c],fun i f hi=>?_⟩;cases i with
   |zero=>simp at hi;subst hi;exact⟨b,ts,hb,rfl⟩
   |succ i=>simp at hi;simpa using d i f hi
  ·cases e
theorem Inv.boxFar {cx:Cx}{D:DSt}{P:List (DT×Value)}{tm:Array Value}{w:World}(I:Inv cx D P tm w){X:List Nat}(i:Out cx D X){h:Nat}{b:Nat×Nat}{ts:List DT}(hb:D[h]?=some (.box b ts)):
  (Cx.mk w X noY).far b.1∧Lies w b (ts.map (T.view .far))∧(∀u∈ts.map (T.view .far),Holds w u)∧∀u∈ts.map (T.view .far),∀x∈bl u,(Cx.mk w X noY).far x:=by
 have a:=Ef hb;have l:=I.mem _ a;have k:∀t∈ts,∀x∈bl t,(Cx.mk w X noY).far x:=by
  intro t m x d;cases n:t.isOwn with
  |true=>exact I.out_own i a (by simp only[ownBl,ER,Eq];exact .inr ⟨t,m,by simp[ownR,n,d]⟩)
  |false=>exact I.out_kind i (I.kind _ a t m) n x d
 refine⟨I.out_own i a (by simp[ownBl]),?_,fun u g=>?_,fun u g x d=>?_⟩
 ·obtain⟨c,e,f,p,q⟩:=l.2.2.1;refine⟨c,e,f,p,fun j t o=>?_⟩;rw[Et,Ei]at o;obtain⟨u,g,rfl⟩:=o;obtain⟨y,r,s⟩:=q j u g;exact⟨y,r,kq.2 s⟩
 ·obtain⟨v,hv,rfl⟩:=Ex.1 g;exact gr (l.1 v hv)
 ·obtain⟨v,hv,rfl⟩:=Ex.1 g;rw[zV]at d;exact k v hv x d
theorem Inv.cloArg {cx:Cx}{D:DSt}{P:List (DT×Value)}{tm:Array Value}{w:World}(I:Inv cx D P tm w){X:List Nat}(j:Out cx D X){f:FuncId}{hs:List Nat}{caps:List ((Nat×Nat)×List DT)}(hc:jG D hs=some caps){y:Value}
  (hv:VS D (.clo (.fn f) hs) y):AOk w X noY (.fni f caps) y:=by
 obtain⟨k,u,r,rfl⟩:=hv;obtain⟨v,n⟩:=pH hc;have a:∀p∈caps,∃(h:Nat) (ts:List DT),D[h]?=some (.box p.1 ts)∧p.2=ts.map (T.view .far):=by
  intro p g;obtain⟨i,hi⟩:=En g;have l:i<hs.length:=by
   rcases Em i caps.length with q|q
   ·omega
   ·rw[Ek q]at hi;cases hi
  obtain⟨b,ts,c,d⟩:=n i hs[i] (El l);rw[hi]at d;cases d;exact⟨_,ts,c,rfl⟩
 have m:k=caps.map (·.1):=by
  apply Ft;intro i;rcases Em i hs.length with q|q
  ·obtain⟨b,ts,c,d⟩:=n i hs[i] (El q);obtain⟨ts',o⟩:=r i hs[i] k[i] (El q) (El (by omega));rw[c]at o;cases o;rw[Et,d,El (by omega)];rfl
  ·rw[Ek (by omega),Ek (by simp;omega)]
 refine⟨fun D=>?_,⟨fun t e=>?_,fun t e=>by simp[rootsO]at e,fun p g=>?_⟩,fun D p g=>?_,eB rfl⟩
 ·show sR (.fn f) k=_;simp only[sR,m,ES];rfl
 ·simp only[af,Eq]at e;obtain⟨p,g,e⟩:=e;obtain⟨h,ts,c,d⟩:=a p g;rw[d]at e;exact(I.boxFar j c).2.2.1 t e
 ·obtain⟨h,ts,c,d⟩:=a p g;rw[d];exact(I.boxFar j c).2.1
 ·obtain⟨h,ts,c,d⟩:=a p g;rw[d];exact⟨(I.boxFar j c).1,fun t e x s=>(I.boxFar j c).2.2.2 t e x s⟩
theorem AOk.ims {w:World}{X:List Nat}{Y:Nat→Prop}{f:FuncId}{caps:List ((Nat×Nat)×List DT)}{y:Value}(h:AOk w X Y (.fni f caps) y):∀(i:Nat)(a:DSl)(v:Value),(Am.ims caps)[i]?=some a→(caps.map fun b=>Value.pointer (some ⟨b.1.1,b.1.2,none⟩))[i]?=some v→AOk w X Y a v:=by
 intro i a v hi hv;unfold Am.ims at hi;rw[Et,Ei]at hi hv;obtain⟨p,h1,rfl⟩:=hi;obtain⟨j,e,rfl⟩:=hv;rw[h1]at e;cases e;have c:=Ef h1;have g:=h.mem;refine⟨fun D=>rfl,⟨fun t d=>?_,fun t d=>by simp[rootsO]at d,g.2.2 p c⟩,fun D=>?_,eB rfl⟩
 ·exact g.1 t (by simp only[af,Eq];exact⟨p,c,by simpa[af]using d⟩)
 ·have:=h.kind D p c;exact⟨this.1,this.2⟩
theorem yn (caps:List ((Nat×Nat)×List DT)):(Am.ims caps).flatMap ownBl=[]:=by rw[Ey];intro s hs;obtain⟨p,_,rfl⟩:=Ex.1 hs;rfl
theorem Inv.argOf {cx:Cx}{D:DSt}{P:List (DT×Value)}{a:Act}{w:World}(I:Inv cx D P a.tmps w){X:List Nat}(d:Out cx D X){x:Operand}{s:DSl}(e:argOf mkD D x=some s):AOk w X noY s (a.eval x)∧s.isHome=false:=by
 unfold Am.argOf at e;split at e
 ·rename_i k b ts off h;cases e;have i:=I.opd h;have y:=i.mem;have n:=i.kind;refine⟨⟨fun D=>i.val,⟨y.1,fun t c=>by simp[rootsO]at c,y.2.2⟩,fun D=>?_,eB rfl⟩,rfl⟩;cases k with
  |own=>exact n.elim
  |far=>exact⟨I.farX d n.1,fun t c x j=>I.farX d (n.2 t c x j)⟩
  |lent K L M =>obtain⟨t',l,r,C,F⟩:=n;obtain⟨s',z,o,A,H,q⟩:=be l;exact⟨I.out_own d o (q r _ C),fun t c x j=>I.out_own d o (q r _ (F t c x j))⟩
 ·rename_i h off u;split at e
  ·rename_i b ts hb;cases e;have i:=I.opd u;obtain⟨N,ts',m,J⟩:=i.val;rw[hb]at m;cases m;obtain⟨z,o,A,q⟩:=I.boxFar d hb;exact⟨⟨fun D=>J,⟨fun t c=>A t (by simpa[af]using c),fun t c=>by simp[rootsO]at c,o⟩,fun D=>⟨z,q⟩,eB rfl⟩,rfl⟩
  ·cases e
 ·rename_i f caps h;cases e;have i:=I.opd h;refine⟨⟨fun D=>i.val,i.mem,fun D p u=>?_,eB rfl⟩,rfl⟩;have:=i.kind p u;exact⟨I.farX d this.1,fun t c x j=>I.farX d (this.2 t c x j)⟩
 ·cases e
 ·rename_i f hs j;rw[Ei]at e;obtain⟨caps,l,rfl⟩:=e;exact⟨I.cloArg d l (I.opd j).val,rfl⟩
 ·rw[Eh]at e;obtain⟨⟨g,ts⟩,h,e⟩:=e;obtain⟨ys,G,hv⟩:=I.cellsCopy h;refine AOk.views G.v G.holds (fun t c b hb=>?_) hv e;cases B:t.isOwn with
  |false=>exact I.out_kind d (G.kind t c) B b hb
  |true =>have l:=G.cnt b;have r:0<(ts.flatMap ownR).count b:=Ew.2 (Eq.2 ⟨t,c,by simp[ownR,B,hb]⟩);rw[bw]at l;omega
def ArgsOk (w:World)(X:List Nat)(Y:Nat→Prop)(ad:List DSl)(c:List Value):Prop :=ad.length=c.length∧(∀(i:Nat)(a:DSl)(y:Value),ad[i]?=some a→c[i]?=some y→AOk w X Y a y)∧∀b,(ad.flatMap ownBl).count b≤1
theorem ArgsOk.nil (w:World)(X:List Nat)(Y:Nat→Prop):ArgsOk w X Y [] []:=⟨rfl,fun i a y h=>by simp at h,fun b=>by simp⟩
theorem ArgsOk.consH {w:World}{X:List Nat}{Y:Nat→Prop}{a:DSl}{y:Value}{as:List DSl}{ys:List Value}(h:AOk w X Y a y)(hc:∀b,(ownBl a).count b+(as.flatMap ownBl).count b≤1)(g:ArgsOk w X Y as ys):ArgsOk w X Y (a::as) (y::ys):=by
 refine⟨by simp[g.1],fun i d e hi c=>?_,fun b=>by rw[Ez,ED];exact hc b⟩;cases i with
 |zero=>simp at hi c;subst hi;subst c;exact h
 |succ i=>simp at hi c;exact g.2.1 i d e hi (by simpa using c)
theorem ArgsOk.consN {w:World}{X:List Nat}{Y:Nat→Prop}{a:DSl}{y:Value}{as:List DSl}{ys:List Value}(h:AOk w X Y a y)(hc:a.isHome=false)(g:ArgsOk w X Y as ys):ArgsOk w X Y (a::as) (y::ys):=
 ArgsOk.consH h (fun b=>by rw[fD hc];simpa using g.2.2 b) g
theorem wd {ad:List DSl}(h:∀a∈ad,a.isHome=false):ad.flatMap ownBl=[]:=by rw[Ey];exact fun a b=>fD (h a b)
section
variable  {δ β : Type}
def T.seen:T δ→Bool| .s .far _ _ _=>true| .s _ _ _ _=>false|_=>true
def opdFar (M:Mk δ β)(D:St δ β)(x:Operand):Bool :=
 match opd M.nil D x with
 |some (.one t)=>t.seen
 |some (.agg ts)=>ts.all T.seen
 |_=>false
end
theorem Inv.argOfF {cx:Cx}{D:DSt}{P:List (DT×Value)}{a:Act}{w:World}(I:Inv cx D P a.tmps w){X:List Nat}(i:Out cx D X){Y:Nat→Prop}(j:∀b,cx.far b→¬Y b){x:Operand}{s:DSl}(hf:Am.opdFar mkD D x=true)(e:Am.argOf mkD D x=some s):
  AOk w X Y s (a.eval x)∧s.isHome=false:=by
 have c:∀{g:Bool}{ts:List DT},Am.cellsCopy mkD D x=some (g,ts)→ts.all T.seen=true→dw g (ts.map (T.view .far))=some s→AOk w X Y s (a.eval x)∧s.isHome=false:=fun {g ts} h hs e=>by
  obtain⟨ys,G,hv⟩:=I.cellsCopy h;refine AOk.views G.v G.holds (fun t f b hb=>?_) hv e;have l:=Eo.1 hs t f;have m:=G.kind t f;cases t with
  |v x=>simp[bl]at hb
  |any=>simp[bl]at hb
  |s k d z r=>cases k<;>first|exact I.farY i j (m b hb)|cases l
 unfold Am.opdFar at hf;unfold Am.argOf at e;split at hf
 ·rename_i t h;rw[h]at e;have hc:Am.cellsCopy mkD D x=some (false,[t]):=by unfold Am.cellsCopy;rw[h]
  refine c hc (by simpa using hf) ?_;rw[hc]at e;exact e
 ·rename_i ts h;rw[h]at e;have hc:Am.cellsCopy mkD D x=some (true,ts):=by unfold Am.cellsCopy;rw[h]
  refine c hc hf ?_;rw[hc]at e;exact e
 ·cases hf
theorem Inv.argsOf {w:World}{X:List Nat}{Y:Nat→Prop}{D:DSt}{a:Act}:∀{xs:List Operand}{ss:List DSl},(∀x∈xs,∀s,Am.argOf mkD D x=some s→AOk w X Y s (a.eval x)∧s.isHome=false)→Am.argsOf mkD D xs=some ss→ArgsOk w X Y ss (xs.map a.eval)∧∀a∈ss,a.isHome=false
 |[],ss,_,e=>by cases e;exact⟨ArgsOk.nil w X Y,fun a h=>by cases h⟩
 |x::xs,ss,b,e=>by
  simp only[Am.argsOf,Eh,Ei]at e;obtain⟨s,d,r,f,rfl⟩:=e;obtain⟨g,i⟩:=Inv.argsOf (fun y j=>b y (by simp[j])) f;obtain⟨k,c⟩:=b x (by simp) s d;exact⟨g.consN k c,fun l ha=>by
   rcases ER.1 ha with rfl|ha
   ·exact c
   ·exact i l ha⟩
section
variable  {δ β : Type}
def argsIo (M:Mk δ β)(D:St δ β)(s:Sl δ β):Nat→List Operand→Option (List (Sl δ β))|_,[]=>none| 0,_::xs=>(argsOf M D xs).map fun r=>s::r|i+1,x::xs=>(argOf M D x).bind fun a=>(argsIo M D s i xs).map fun r=>a::r
end
def OneHome (s:DSl)(y:Value):Nat→List DSl→List Value→Prop|_,[],_=>False|_,_::_,[]=>False| 0,a::as,v::_=>a=s∧v=y∧∀a∈as,a.isHome=false|i+1,a::as,_::b=>a.isHome=false∧OneHome s y i as b
theorem Inv.argsIo {w:World}{X:List Nat}{Y:Nat→Prop}{D:DSt}{a:Act}{s:DSl}{x:Operand}(hs:AOk w X Y s (a.eval x))(l:∀b,(ownBl s).count b≤1):
  ∀{i:Nat}{xs:List Operand}{ss:List DSl},(∀x∈xs.eraseIdx i,∀s,Am.argOf mkD D x=some s→AOk w X Y s (a.eval x)∧s.isHome=false)→xs[i]?=some x→Am.argsIo mkD D s i xs=some ss→ArgsOk w X Y ss (xs.map a.eval)∧ss.flatMap ownBl=ownBl s∧OneHome s (a.eval x) i ss (xs.map a.eval)
 |_,[],ss,_,c,e=>by simp at c
 | 0,y::xs,ss,f,c,e=>by simp only[Am.argsIo,Ei]at e;obtain⟨r,g,rfl⟩:=e;obtain⟨h,d⟩:=Inv.argsOf (fun y j=>f y (by simpa using j)) g;simp at c;subst c;exact⟨h.consH hs fun b=>by rw[wd d];simpa using l b,by rw[Ez,wd d,EH],rfl,rfl,d⟩
 |i+1,y::xs,ss,f,c,e=>by simp only[Am.argsIo,Eh,Ei]at e;obtain⟨m,n,r,g,rfl⟩:=e;obtain⟨h,d,o⟩:=Inv.argsIo hs l (fun y j=>f y (by simp[j])) (by simpa using c) g;obtain⟨p,k⟩:=f y (by simp) m n;exact⟨h.consN p k,by rw[Ez,fD k,d];rfl,k,o⟩
theorem vR (t:DT):t.er.seen=t.seen:=by
 cases t with
 |v x=>rfl
 |any=>rfl
 |s k d z r=>rw[aq];cases k<;>rfl
theorem ri (D:DSt)(x:Operand):opdFar mkU (erD D) x=opdFar mkD D x:=by
 simp only[opdFar,bn];cases opd mkD.nil D x with
 |none=>rfl
 |some s =>
  cases s with
  |one t=>exact vR t
  |agg ts=>exact cg T.seen T.seen vR ts
  |_=>rfl
theorem sW (D:DSt):∀(hs:List Nat),jG (erD D) hs=(jG D hs).map (List.map fun p=>((),erL p.2))
 |[]=>rfl
 |h::hs=>by
  simp only[jG,a8];cases D[h]? with
  |none=>rfl
  |some s =>
   cases s with
   |box b ts =>
    simp only[Ee,Sl.er,sW D hs];cases jG D hs with
    |none=>rfl
    |some r=>simp only[Ee,EB,kG]
   |_=>rfl
theorem xT (caps:List ((Nat×Nat)×List DT)):(ims caps).map Sl.er=ims (caps.map fun p=>((),erL p.2)):=by unfold ims;rw[ES,ES];rfl
theorem sU (D:DSt)(x:Operand):argOf mkU (erD D) x=(argOf mkD D x).map Sl.er:=by
 simp only[argOf,bn];have a:∀s:DSl,((cellsCopy mkU (erD D) x).bind fun p=>dw p.1 (p.2.map (T.view .far)))=((cellsCopy mkD D x).bind fun p=>(dw p.1 (p.2.map (T.view .far)):Option DSl)).map Sl.er:=by
  intro s;rw[dK];cases cellsCopy mkD D x with
  |none=>rfl
  |some p=>simp only[Ee,Eg, ←kG,lU]
 cases d:opd mkD.nil D x with
 |none=>exact a .any
 |some s =>
  cases s with
  |pb h off =>
   simp only[Ee,Sl.er,a8];cases D[h]? with
   |none=>rfl
   |some s=>cases s<;>first|rfl|simp only[Ee,Sl.er,kG]
  |im k b ts off=>rfl
  |fni f caps=>rfl
  |pe h c st i off=>rfl
  |clo g hs =>
   cases g with
   |arr offs=>exact a .any
   |fn f =>
    simp only[Ee,Sl.er,sW];cases jG D hs with
    |none=>rfl
    |some r=>rfl
  |_=>exact a .any
theorem nq (D:DSt):∀(xs:List Operand),argsOf mkU (erD D) xs=(argsOf mkD D xs).map (List.map Sl.er)
 |[]=>rfl
 |x::xs=>by
  simp only[argsOf,sU,nq D xs];cases argOf mkD D x with
  |none=>rfl
  |some s =>
   simp only[Ee,Eg];cases argsOf mkD D xs with
   |none=>rfl
   |some r=>rfl
theorem rg (D:DSt)(s:DSl):∀(i:Nat)(xs:List Operand),argsIo mkU (erD D) s.er i xs=(argsIo mkD D s i xs).map (List.map Sl.er)
 |_,[]=>by simp[argsIo]
 | 0,x::xs=>by
  simp only[argsIo,nq];cases argsOf mkD D xs with
  |none=>rfl
  |some r=>rfl
 |i+1,x::xs=>by
  simp only[argsIo,sU,rg D s i xs];cases argOf mkD D x with
  |none=>rfl
  |some a =>
   simp only[Ee,Eg];cases argsIo mkD D s i xs with
   |none=>rfl
   |some r=>rfl
abbrev URes:=List (Bool×List (T Unit))
abbrev b6:=List (Bool×List DT)
def erR (rd:b6):URes:=rd.map fun r=>(r.1,erL r.2)
theorem ms (a b:b6):erR (a++b)=erR a++erR b:=by simp[erR]
def cM:DSl→List Nat| .box b _=>[b.1]|_=>[]
theorem zO {a:DSl}(h:a.isHome=false):cM a=[]:=by cases a<;>first|rfl|cases h
theorem Ad {ad:List DSl}(h:∀a∈ad,a.isHome=false):ad.flatMap cM=[]:=by rw[Ey];exact fun a b=>zO (h a b)
def a6 (rd:b6):List Nat:=rd.flatMap fun r=>r.2.flatMap ownR
theorem gk (a b:b6):a6 (a++b)=a6 a++a6 b:=by simp[a6]
inductive HK where|box|one|agg deriving DecidableEq
def bE {δ β:Type}:Sl δ β→Option HK| .box _ _=>some .box| .one u=>if u.isOwn=true then some .one else none| .agg ts=>if ts.any T.isOwn=true then some .agg else none|_=>none
theorem rt {a:DSl}(h:a.isHome=false):bE a=none:=by
 cases a with
 |one t=>simp[bE,show t.isOwn=false from h]
 |agg ts=>simp only[bE,show ts.any T.isOwn=false from h];rfl
 |box b ts=>cases h
 |_=>rfl
theorem zu {a:DSl}(h:bE a=some .box):∃b ts,a = .box b ts:=by
 cases a with
 |box b ts=>exact⟨b,ts,rfl⟩
 |one u=>simp only[bE]at h;split at h<;>simp at h
 |agg ts=>simp only[bE]at h;split at h<;>simp at h
 |_=>simp[bE]at h
theorem pn {a:DSl}(h:bE a=some .one):∃u,a = .one u:=by
 cases a with
 |box b ts=>simp[bE]at h
 |one u=>exact⟨u,rfl⟩
 |agg ts=>simp only[bE]at h;split at h<;>simp at h
 |_=>simp[bE]at h
theorem zt {a:DSl}(h:bE a=some .agg):∃ts,a = .agg ts:=by
 cases a with
 |box b ts=>simp[bE]at h
 |one u=>simp only[bE]at h;split at h<;>simp at h
 |agg ts=>exact⟨ts,rfl⟩
 |_=>simp[bE]at h
def pD (w':World)(a:DSl)(y:Value)(o:Bool×List DT):Prop :=
 match a with
 | .box b _=>o.1=true∧Lies w' b o.2∧Free w' b o.2.length
 | .one _=>VPart o y∧o.1=false
 | .agg _=>VPart o y∧o.1=true
 |_=>False
def OutsOk (w':World):List DSl→List Value→b6→Prop|[],_,od=>od=[]|a::as,y::ys,od=>if(bE a).isSome then ∃o r,od=o::r∧pD w' a y o∧OutsOk w' as ys r else OutsOk w' as ys od|_::_,[],_=>False
section
variable  {δ : Type}
def T.isFar:T δ→Bool| .s .far _ _ _=>true|_=>false
def fillF:List (T δ)→List (T δ)→List (T δ)|[],_=>[]|t::row,[]=>t::fillF row []| .any::row,f::fs=>f::fillF row fs|t::row,fs=>t::fillF row fs
end
def A0 (w:World)(rd:b6)(v:Value):Prop :=∃(d:Dec) (z:Nat) (row fs:List DT),rd=[(false,.s .own d z [row]:: .any::fs)]∧v = .pointer (some ⟨d.b,d.o,none⟩)∧fs.all T.isFar=true∧Lies w (d.b,d.o) (fillF row fs)
def KindR (cx:Cx)(t:DT):Prop:=t.isOwn=true∨t.noLent=true∧∀x∈bl t,cx.far x
theorem KindR.fine {cx:Cx}{t:DT}(h:t.fine=true):KindR cx t:=by
 cases t with
 |v x=>exact .inr ⟨rfl,fun y a=>by simp[bl]at a⟩
 |any=>exact .inr ⟨rfl,fun y a=>by simp[bl]at a⟩
 |s k d z r=>cases k<;>first|exact .inl rfl|cases h
theorem KindR.noLent {cx:Cx}{t:DT}(h:KindR cx t):t.noLent=true:=by
 rcases h with h|h
 ·cases t with
  |s k d z r=>cases k<;>first|rfl|cases h
  |_=>rfl
 ·exact h.1
theorem KindR.at {cx:Cx}{D:DSt}{t:DT}(h:KindR cx t):aS cx D t:=by
 cases t with
 |v x=>trivial
 |any=>trivial
 |s k d z r =>
  cases k with
  |own=>trivial
  |far=>exact fun x a=>(h.elim (fun q=>by cases q) fun q=>q.2 x a)
  |lent b c e=>exact absurd h.noLent (by simp[T.noLent])
def ff (cx:Cx)(rd:b6):Prop:=∀r∈rd,∀t∈r.2,KindR cx t
structure RetOk (w:World)(X:List Nat)(Y:Nat→Prop)(w':World)(bx:List Nat)(od rd:b6)(v:Value):Prop where
 val:(∃r,rd=[r]∧VPart r v)∨(rd.length≠1∧VS [] (.tup rd) v)∨A0 w' rd v
 kind:ff ⟨w,X,Y⟩ (od++rd)
 holds:∀r∈od++rd,∀t∈r.2,Holds w' t
 own:∀r∈od++rd,∀t∈r.2,t.isOwn=true→OwnT w' t
 once:∀b,(a6 (od++rd)).count b+bx.count b≤1
 new:∀b∈a6 (od++rd),(w.heap.size≤b∨b∈X)∧b<w'.heap.size
structure GrewH (X:List Nat)(w w':World):Prop where
 os:w'.os=w.os
 tape:w'.tape=w.tape
 output:w'.output=w.output
 size:w.heap.size≤w'.heap.size
 same:∀b,b<w.heap.size→b∉X→w'.heap[b]?=w.heap[b]?
theorem Grew.x {w w':World}(g:Grew w w')(X:List Nat):GrewH X w w':=⟨g.os,g.tape,g.output,g.size,fun b h _=>g.same b h⟩
theorem GrewH.grew {w w':World}(g:GrewH [] w w'):Grew w w':=⟨g.os,g.tape,g.output,g.size,fun b h=>g.same b h (by simp)⟩
abbrev Sem1:=FuncId→List (Sl Unit Unit)→Option URes
structure Base where
 n:Nat
 K:World→Prop
 stable:∀{w w':World},(∀b,b<n→w'.heap[b]?=w.heap[b]?)→K w→K w'
def Base.ok (B:Base)(w:World)(X:List Nat):Prop:=B.n≤w.heap.size∧(∀b∈X,B.n≤b)∧B.K w
def B0:Base:=⟨0,fun _=>True,fun _ h=>h⟩
theorem B0.ok (w:World)(X:List Nat):B0.ok w X:=⟨GI _,fun _ _=>GI _,trivial⟩
theorem Base.ok.at {B:Base}{cx:Cx}{D D':DSt}{d:List (DT×Value)}{tm:Array Value}{w:World}(h:B.ok cx.w0 cx.X)(I:Inv cx D d tm w){X:List Nat}(e:Out cx D' X):B.ok w X:=by
 obtain⟨a,c,f⟩:=h;refine⟨E7 a I.frame.size,fun b hb=>?_,B.stable (fun b hb=>I.frame.same b ⟨EU hb a,fun g=>Nat.not_le_of_lt hb (c b g)⟩) f⟩;rcases(e b hb).1 with h|h
 ·exact E7 a h
 ·exact c b h
def CallsOk (P:Program)(B:Base)(C:Sem1):Prop :=∀(f:FuncId)(as:List (Sl Unit Unit))(rs:URes),C f as=some rs→∀(w:World)(X:List Nat)(Y:Nat→Prop)(ad:List DSl)(a:List Value),B.ok w X→ad.map Sl.er=as→ArgsOk w X Y ad a → Calls P f a.toArray w fun e w'=>∃v od rd,e = .returned v∧GrewH X w w'∧erR (od++rd)=rs∧OutsOk w' ad a od∧RetOk w X Y w' (ad.flatMap cM) od rd v
def da (P:Program)(B:Base)(C:Sem1)(cx:Cx):Prop:=CallsOk P B C∧B.ok cx.w0 cx.X
theorem OutsOk.none {w':World}:∀{ad:List DSl}{b:List Value}{od:b6},(∀a∈ad,a.isHome=false)→OutsOk w' ad b od→od=[]
 |[],_,_,_,h=>h
 |a::as,[],_,_,h=>h.elim
 |a::as,y::ys,od,hh,h=>by unfold OutsOk at h;rw[rt (hh a (by simp))]at h;exact OutsOk.none (fun c d=>hh c (by simp[d])) h
theorem OutsOk.one {w':World}{s:DSl}{y:Value}(hs:(bE s).isSome=true):∀{i:Nat}{ad:List DSl}{b:List Value}{od:b6},OneHome s y i ad b→OutsOk w' ad b od→∃o,od=[o]∧pD w' s y o
 |i,[],_,_,h,_=>by cases i<;>exact h.elim
 |i,a::as,[],_,h,_=>by cases i<;>exact h.elim
 | 0,a::as,v::b,od,h,g=>by obtain⟨rfl,rfl,c⟩:=h;unfold OutsOk at g;rw[hs]at g;obtain⟨o,r,rfl,d,e⟩:=g;rw[OutsOk.none c e];exact⟨o,rfl,d⟩
 |i+1,a::as,v::b,od,h,g=>by obtain⟨f,j⟩:=h;unfold OutsOk at g;rw[rt f]at g;exact OutsOk.one hs j g
theorem OneHome.box {s:DSl}{y:Value}:∀{i:Nat}{ad:List DSl}{b:List Value},OneHome s y i ad b→ad.flatMap cM=cM s
 |i,[],_,h=>by cases i<;>exact h.elim
 |i,a::as,[],h=>by cases i<;>exact h.elim
 | 0,a::as,v::b,h=>by obtain⟨rfl,rfl,c⟩:=h;rw[Ez,show as.flatMap cM=[]from Ad c,EH]
 |i+1,a::as,v::b,h=>by rw[Ez,zO h.1,h.2.box];rfl
section
variable  {δ β : Type}
def nar (M:Mk δ β)(n:Nat)(s:Sl δ β):Sl δ β :=
 match s with
 | .im k b ts off=>if n≠0∧(off≠0∨n≠ts.length)∧off+n≤ts.length then .im k (M.at_ (M.ptr b) off 1) ((ts.drop off).take n) 0 else .im k b ts off
 |s=>s
def narL (M:Mk δ β):List Nat→List (Sl δ β)→List (Sl δ β)|n::a,s::ss=>nar M n s::narL M a ss|_,ss=>ss
def argsW (M:Mk δ β)(tab:Tab)(f:FuncId)(D:St δ β)(xs:List Operand):Option (List (Sl δ β)):=(argsOf M D xs).map (narL M ((tab.pw.lookup f).getD []))
end
theorem Aw (n:Nat)(s:DSl):nar mkU n s.er=(nar mkD n s).er:=by
 cases s with
 |im k b ts off =>
  simp only[nar,Sl.er,EJ];split
  ·simp only[Sl.er,erL,FK,FL]
  ·rfl
 |_=>rfl
theorem vP:∀(a:List Nat)(ss:List DSl),narL mkU a (ss.map Sl.er)=(narL mkD a ss).map Sl.er
 |[],ss=>by cases ss<;>rfl
 |n::a,[]=>rfl
 |n::a,s::ss=>by simp only[EB,narL,Aw,vP a ss]
theorem sV (tab:Tab)(f:FuncId)(D:DSt)(xs:List Operand):argsW mkU tab f (erD D) xs=(argsW mkD tab f D xs).map (List.map Sl.er):=by unfold argsW;rw[nq,E8,E8];congr 1;funext ss;exact vP _ ss
theorem AOk.nar {w:World}{X:List Nat}{Y:Nat→Prop}{a:DSl}{y:Value}(n:Nat)(h:AOk w X Y a y)(hh:a.isHome=false):AOk w X Y (Am.nar mkD n a) y∧(Am.nar mkD n a).isHome=false:=by
 cases a with
 |im k b ts off =>
  simp only[Am.nar];split
  ·rename_i hc;have hb:(mkD.at_ (mkD.ptr b) off 1)=(b.1,b.2+off):=by simp[mkD]
   rw[hb];have d:∀u∈(ts.drop off).take n,u∈ts:=fun u g=>Fi (Fz g)
   have q:=h.mem;refine⟨⟨fun D=>?_,⟨fun u g=>q.1 u (d u g),fun u g=>by simp[rootsO]at g,?_⟩,fun D=>?_,eB rfl⟩,rfl⟩
   ·have:=h.val D;exact this
   ·obtain⟨c,e,f,m,o⟩:=q.2.2;refine⟨c,e,f,m,fun j u i=>?_⟩;have p:ts[off+j]?=some u:=by
     rw[Fe]at i;split at i
     ·rwa [E4]at i
     ·cases i
    obtain⟨z,r,s⟩:=o (off+j) u p;exact⟨z,by simpa[Fp]using r,s⟩
   ·have l:=h.kind D;cases k with
    |own=>exact l
    |far=>exact⟨l.1,fun u g=>l.2 u (d u g)⟩
    |lent A c B =>obtain⟨t,m,o,v,x⟩:=l;exact⟨t,m,o,v,fun u g=>x u (d u g)⟩
  ·exact⟨h,hh⟩
 |_=>exact⟨h,hh⟩
theorem ArgsOk.narL {w:World}{X:List Nat}{Y:Nat→Prop}:∀(c:List Nat){ad:List DSl}{d:List Value},ArgsOk w X Y ad d→(∀s∈ad,s.isHome=false)→ArgsOk w X Y (Am.narL mkD c ad) d∧∀s∈Am.narL mkD c ad,s.isHome=false
 |[],ad,d,h,hh=>by cases ad<;>exact⟨h,hh⟩
 |n::c,[],d,h,hh=>⟨h,hh⟩
 |n::c,a::as,[],h,hh=>by have:=h.1;simp at this
 |n::c,a::as,y::ys,h,hh=>by
  have f:=h.2.1 0 a y rfl rfl;obtain⟨g,e⟩:=f.nar n (hh a (by simp));have j:ArgsOk w X Y as ys:=⟨by simpa using h.1,fun i k l m o=>h.2.1 (i+1) k l (by simpa using m) (by simpa using o),fun b=>by have:=h.2.2 b;rw[Ez,ED]at this;omega⟩
  obtain⟨p,q⟩:=ArgsOk.narL c j fun s hs=>hh s (by simp[hs])
  refine⟨p.consN g e,fun s hs=>?_⟩;rcases ER.1 hs with rfl|hs
  ·exact e
  ·exact q s hs
theorem Inv.argsW {w:World}{X:List Nat}{Y:Nat→Prop}{D:DSt}{a:Act}{tab:Tab}{f:FuncId}{xs:List Operand}{ad:List DSl}(b:∀x∈xs,∀s,Am.argOf mkD D x=some s→AOk w X Y s (a.eval x)∧s.isHome=false)(e:Am.argsW mkD tab f D xs=some ad):
  ArgsOk w X Y ad (xs.map a.eval)∧∀s∈ad,s.isHome=false:=by
 unfold Am.argsW at e;rw[Ei]at e;obtain⟨c,d,rfl⟩:=e;obtain⟨g,h⟩:=Inv.argsOf b d;exact g.narL _ h
section
variable  {δ β : Type}
def kw (M:Mk δ β)(fs:List (T δ)):T δ→Option (β×List (T δ))| .s .own d z [row]=>if row.all T.fine=true∧fs.all T.isFar=true then some (M.at_ d 0 z,fillF row fs)else none|_=>none
def mF (M:Mk δ β)(r:Bool×List (T δ)):Option (β×List (T δ)):=
 match r.1,r.2 with
 |false,t :: .any::fs=>kw M fs t
 |_,_=>none
def jL (M:Mk δ β):List (Bool×List (T δ))→Option (Sl δ β)
 |[r]=>match mF M r with|some (b,row)=>some (.box b row)|none=>dw r.1 r.2
 |rs=>some (.tup rs)
def putRet (M:Mk δ β)(D:St δ β)(dst:Option Nat)(rs:List (Bool×List (T δ))):Option (St δ β):=
 match dst with
 |none=>some D
 |some t=>if t<D.length then(jL M rs).map fun s=>aE D (some t) s else none
def boolOf (M:Mk δ β)(D:St δ β)(x:Operand):Option Bool :=
 match opd M.nil D x with
 |some (.one (.v (.bool b)))=>some b
 |_=>none
end
theorem Inv.dropP {cx:Cx}{D:DSt}{P:List (DT×Value)}{tm:Array Value}{w:World}(I:Inv cx D P tm w):Inv cx D [] tm w where
 size:=I.size
 val:=I.val
 mem:=I.mem
 kind:=I.kind
 pend:=fun p a=>by cases a
 once:=fun b=>by have:=I.once b;rw[bw];omega
 bnd:=fun b hb=>I.bnd b (by rw[bw]at hb;omega)
 frame:=I.frame
def PendOf (P:List (DT×Value))(ts:List DT):Prop:=P.map (·.1)=ts∧∀p∈P,VT p.1 p.2
theorem PendOf.cnt {P:List (DT×Value)}{ts:List DT}(h:PendOf P ts)(b:Nat):az P b=(ts.flatMap ownR).count b:=by unfold az;rw[←h.1,FF]
theorem cL:∀{ts:List DT},(∀t∈ts,∃y,VT t y)→∃P,PendOf P ts
 |[],_=>⟨[],rfl,fun p hp=>by cases hp⟩
 |t::ts,h=>by
  obtain⟨y,a⟩:=h t (by simp);obtain⟨P,b,c⟩:=cL (ts:=ts) fun u d=>h u (by simp[d])
  refine⟨(t,y)::P,by simp[b],fun p hp=>?_⟩;rcases ER.1 hp with rfl|hp
  ·exact a
  ·exact c p hp
theorem VCells.each {ts:List DT}{ys:List Value}(h:VCells ts ys):∀t∈ts,∃y,VT t y:=by
 intro t b;obtain⟨i,hi⟩:=En b;have a:i<ys.length:=by
  rw[←h.1];rcases Em i ts.length with g|g
  ·exact g
  ·rw[Ek g]at hi;cases hi
 exact⟨_,h.2 i t ys[i] hi (El a)⟩
theorem VPart.each {r:Bool×List DT}{y:Value}(h:VPart r y):∀t∈r.2,∃y,VT t y:=by
 unfold VPart at h;split at h
 ·obtain⟨cs,_,h⟩:=h;exact h.each
 ·obtain⟨t,b,c⟩:=h;intro u a;rw[b,Er]at a;subst a;exact⟨_,c⟩
theorem jK (rd:b6):a6 rd=(rd.flatMap (·.2)).flatMap ownR:=by unfold a6;rw[List.flatMap_assoc]
theorem RetOk.each {w:World}{X:List Nat}{Y:Nat→Prop}{w':World}{bx:List Nat}{od rd:b6}{v:Value}(R:RetOk w X Y w' bx od rd v):∀t∈rd.flatMap (·.2),∃y,VT t y:=by
 intro t ht;obtain⟨r,a,ht⟩:=Eq.1 ht;rcases R.val with⟨l,b,c⟩|⟨_,h,_,c,j⟩|⟨d,z,row,fs,b,_,e,_⟩
 ·rw[b,Er]at a;subst a;exact c.each t ht
 rotate_left
 ·rw[b,Er]at a;subst a;simp only[ER]at ht;rcases ht with rfl|rfl|ht
  ·exact⟨_,rfl⟩
  ·exact⟨.bool true,rfl⟩
  ·have:=Eo.1 e t ht;cases t with
   |s k d z r=>exact⟨_,rfl⟩
   |_=>cases this
 ·obtain⟨i,hi⟩:=En a;have f:i<h.toList.length:=by
   rw[←c];rcases Em i rd.length with g|g
   ·exact g
   ·rw[Ek g]at hi;cases hi
  exact(j i r h.toList[i] hi (El f)).each t ht
theorem Inv.world {cx:Cx}{D:DSt}{P P':List (DT×Value)}{tm:Array Value}{w w':World}(I:Inv cx D P tm w){X:List Nat}(m:Out cx D X)(g:GrewH X w w')
  (n:∀p∈P',VT p.1 p.2∧Holds w' p.1∧(p.1.isOwn=true→OwnT w' p.1)∧(p.1.isOwn=false→∀x∈bl p.1,cx.far x))
  (C:∀b,0<az P' b→az P' b≤1∧aO D b=0∧cx.may b∧b<w'.heap.size):Inv cx D P' tm w':=by
 have same:∀b,(Cx.mk w X noY).far b→w'.heap[b]?=w.heap[b]?:=fun b h=>g.same b h.1.1 h.1.2
 have j:∀s∈D,∀b∈ownBl s,(Cx.mk w X noY).far b:=fun s hs b hb=>I.out_own m hs hb
 have i:∀s∈D,∀t∈rootsO s,aS cx D t→∀b∈bl t,(Cx.mk w X noY).far b:=by
  intro s hs t a d b hb;cases y:t.isOwn with
  |false=>exact I.out_kind m d y b hb
  |true =>
   refine j s hs b ?_;have:b∈ownR t:=by simp[ownR,y,hb]
   cases s with
   |one u=>simp[rootsO]at a;subst a;exact this
   |agg ts=>exact Eq.2 ⟨t,a,this⟩
   |box F ts=>exact FS _ (Eq.2 ⟨t,a,this⟩)
   |tup rs =>simp only[rootsO,Eq]at a;obtain⟨r,J,a⟩:=a;exact Eq.2 ⟨r,J,Eq.2 ⟨t,a,this⟩⟩
   |_=>simp[rootsO]at a
 have l:∀(b:Nat)(ts:List DT)(k:Kd),iE cx D k b ts→(Cx.mk w X noY).far b∧∀t∈ts,∀x∈bl t,(Cx.mk w X noY).far x:=by
  intro b ts k d;cases k with
  |own=>exact d.elim
  |far=>exact⟨I.farX m d.1,fun t a x v=>I.farX m (d.2 t a x v)⟩
  |lent h c N =>obtain⟨t',B,A,K,L⟩:=d;obtain⟨s,O,G,Q,M,H⟩:=be B;exact⟨j s G _ (H A _ K),fun t a x v=>j s G _ (H A _ (L t a x v))⟩
 have lies:∀(b:Nat×Nat)(ts:List DT),(Cx.mk w X noY).far b.1→Lies w b ts→Lies w' b ts:=by rintro b ts hf ⟨c,e,f,B,A⟩;exact⟨c,e,f,by rw[same _ hf];exact B,A⟩
 refine⟨I.size,I.val,fun s hs=>?_,I.kind,n,fun b=>?_,fun b hb=>?_,?_⟩
 ·have o:=I.mem s hs;have d:=I.kind s hs;have roots:∀t∈af s,∀b∈bl t,(Cx.mk w X noY).far b:=by
   intro t a;cases s with
   |one u=>exact i _ hs t a (d t a)
   |agg ts=>exact i _ hs t a (d t a)
   |box F ts=>exact i _ hs t a (d t a)
   |tup rs=>exact i _ hs t a (d t a)
   |im k b ts off=>exact(l _ _ _ d).2 t a
   |fni f caps =>simp only[af,Eq]at a;obtain⟨p,n,a⟩:=a;exact fun x v=>I.farX m ((d p n).2 t a x v)
   |_=>simp[af]at a
  refine⟨fun t a=>(o.1 t a).frame fun b hb _=>same b (roots t a b hb),fun t a y=>(o.2.1 t a y).frame fun b hb _=>same b (i s hs t a (by
   cases s with
   |one u=>exact d t a
   |agg ts=>exact d t a
   |box F ts=>exact d t a
   |tup rs=>exact d t a
   |_=>simp[rootsO]at a) b hb),?_⟩
  cases s with
  |box b ts =>have hf:=j _ hs b.1 (by simp[ownBl]);refine⟨lies b ts hf o.2.2.1,fun c e lo hi hc=>o.2.2.2 c e lo hi ?_⟩;rw[←same _ hf];exact hc
  |im k b ts off=>exact lies b ts (l _ _ _ d).1 o.2.2
  |fni f caps=>exact fun p n=>lies p.1 p.2 (I.farX m (d p n).1) (o.2.2 p n)
  |_=>trivial
 ·have q:=I.once b;rcases E0 (az P' b)with z|z
  ·omega
  ·have:=C b z;omega
 ·rcases E0 (az P' b)with z|z
  ·have:=I.bnd b (by omega);exact⟨this.1,EU this.2 g.size⟩
  ·exact(C b z).2.2
 ·have f:=I.frame;exact⟨by rw[g.os,f.os],by rw[g.tape,f.tape],by rw[g.output,f.output],E7 f.size g.size,fun b hb=>by rw[g.same b (EU hb.1 f.size) fun q=>Cx.keep_not hb (m b q).1];exact f.same b hb⟩
theorem RetOk.pend {w:World}{X:List Nat}{Y:Nat→Prop}{w':World}{bx:List Nat}{od rd:b6}{v:Value}(R:RetOk w X Y w' bx od rd v){ts:List DT}(a:∀t∈ts,∃r∈od++rd,t∈r.2){P:List (DT×Value)}(d:PendOf P ts){cx:Cx}(f:ff cx (od++rd)):
  ∀p∈P,VT p.1 p.2∧Holds w' p.1∧(p.1.isOwn=true→OwnT w' p.1)∧(p.1.isOwn=false→∀x∈bl p.1,cx.far x):=by
 intro p e;obtain⟨r,b,c⟩:=a p.1 (by rw[←d.1];exact Ex.2 ⟨p,e,rfl⟩);refine⟨d.2 p e,R.holds r b _ c,R.own r b _ c,fun g x h=>?_⟩;rcases f r b _ c with q|q
 ·rw[g]at q;cases q
 ·exact q.2 x h
theorem qI:∀{ts:List DT},(∀t∈ts,t.fine=true)→ts.flatMap bl=ts.flatMap ownR
 |[],_=>rfl
 |t::ts,h=>by
  rw[Ez,Ez,qI fun u a=>h u (by simp[a])];congr 1;have:=h t (by simp);cases t with
  |v x=>simp[ownR,T.isOwn,bl]
  |any=>simp[ownR,T.isOwn,bl]
  |s k d z r=>cases k<;>first|(simp[ownR,T.isOwn];done)|cases this
theorem iB:∀{row fs:List DT}{u:DT},u∈fillF row fs→u∈row∨u∈fs
 |[],fs,u,h=>by cases fs<;>cases h
 |t::row,[],u,h=>by
  rcases ER.1 h with rfl|h
  ·exact .inl (by simp)
  ·exact(iB h).imp (fun q=>by simp[q]) fun q=>by cases q
 | .any::row,f::fs,u,h=>by
  rcases ER.1 h with rfl|h
  ·exact .inr (by simp)
  ·exact(iB h).imp (fun q=>by simp[q]) fun q=>by simp[q]
 | .v x::row,f::fs,u,h=>by
  rcases ER.1 h with rfl|h
  ·exact .inl (by simp)
  ·exact(iB h).imp (fun q=>by simp[q]) id
 | .s k d z r::row,f::fs,u,h=>by
  rcases ER.1 h with rfl|h
  ·exact .inl (by simp)
  ·exact(iB h).imp (fun q=>by simp[q]) id
theorem lB {t:DT}(h:t.isFar=true):ownR t=[]:=by
 cases t with
 |s k d z r=>cases k<;>first|rfl|cases h
 |_=>rfl
theorem jV:∀(row fs:List DT),(fillF row fs).length=row.length
 |[],fs=>by cases fs<;>rfl
 |t::row,[]=>by simp[fillF,jV row []]
 | .any::row,f::fs=>by simp[fillF,jV row fs]
 | .v x::row,f::fs=>by simp[fillF,jV row (f::fs)]
 | .s k d z r::row,f::fs=>by simp[fillF,jV row (f::fs)]
theorem jW:∀{row fs:List DT},fs.all T.isFar=true→(fillF row fs).flatMap ownR=row.flatMap ownR
 |[],fs,_=>by cases fs<;>rfl
 |t::row,[],h=>by simp only[fillF,Ez,jW (row:=row) h]
 | .any::row,f::fs,h=>by simp only[GL,EF]at h;simp only[fillF,Ez,jW (row:=row) h.2,lB h.1];rfl
 | .v x::row,f::fs,h=>by simp only[fillF,Ez,jW (row:=row) h]
 | .s k d z r::row,f::fs,h=>by simp only[fillF,Ez,jW (row:=row) h]
theorem RetOk.ptr {w:World}{X:List Nat}{Y:Nat→Prop}{w':World}{bx:List Nat}{od rd:b6}{v:Value}(R:RetOk w X Y w' bx od rd v){cx:Cx}(y:ff cx rd){r:Bool×List DT}(A:rd=[r]){b:Nat×Nat}{row:List DT}(i:mF mkD r=some (b,row)):
  v = .pointer (some ⟨b.1,b.2,none⟩)∧Lies w' b row∧Free w' b row.length∧(∀u∈row,Holds w' u∧(u.isOwn=true→OwnT w' u)∧KindR cx u)∧∀x,(b.1::row.flatMap ownR).count x=(a6 rd).count x:=by
 subst A;obtain⟨g,ts⟩:=r;unfold mF at i;split at i
 case h_2=>cases i
 rename_i t fs p m;simp only at p m;subst p;subst m;unfold kw at i;split at i
 case h_2=>cases i
 rename_i d z a;split at i
 case isFalse=>cases i
 rename_i hf;cases i;have h:∀u∈a,u.fine=true:=fun u hu=>Eo.1 hf.1 u hu
 have hv:v = .pointer (some ⟨d.b,d.o,none⟩)∧Lies w' (d.b,d.o) (fillF a fs):=by
  rcases R.val with⟨S,k,l⟩|⟨k,_⟩|⟨U,V,n,B,k,l,_,C⟩
  ·cases k;simp only[VPart,EE,E3]at l;obtain⟨t,D,_⟩:=l;cases D
  ·exact absurd rfl k
  ·simp only[Gb,Gx,T.s.injEq,GK,Gr]at k;obtain⟨⟨rfl,rfl,rfl⟩,rfl⟩:=k;exact⟨l,C⟩
 have F:=R.holds (false,.s .own d z [a]:: .any::fs) (by simp) (.s .own d z [a]) (by simp);have G:=R.own (false,.s .own d z [a]:: .any::fs) (by simp) (.s .own d z [a]) (by simp) rfl;have H:(mkD.at_ d 0 z)=(d.b,d.o):=by simp[mkD]
 rw[H];cases F with
 |s _ _ _ _ I W c e f Z q4 J q6 K =>
  have hz:=J 0 a rfl;cases G with
  |s _ _ _ p1 p2 c' e' lo hi L M p5 N O =>
   refine⟨hv.1,hv.2,fun c2 e2 P Q hc x k l=>?_,fun u hu=>?_,fun x=>?_⟩
   ·rw[L]at hc;cases hc;refine N x k ?_;have:1*z≤d.cap*z:=Fj z (by simpa using M);rw[jV]at l;simp only at l;omega
   ·rcases iB hu with hu|hu
    ·obtain⟨j,q⟩:=En hu;exact⟨K 0 a j u rfl q,fun _=>O 0 a j u rfl q,KindR.fine (h u hu)⟩
    ·exact⟨R.holds (false,.s .own d z [a]:: .any::fs) (by simp) u (by simp[hu]),R.own (false,.s .own d z [a]:: .any::fs) (by simp) u (by simp[hu]),y (false,.s .own d z [a]:: .any::fs) (by simp) u (by simp[hu])⟩
   ·have hz:fs.flatMap ownR=[]:=Ey.2 fun u hu=>lB (Eo.1 hf.2 u hu)
    have:a6 ([(false,.s .own d z [a]:: .any::fs)]:b6)=d.b::a.flatMap ownR:=by simp only[a6,Ez,FO,EH,hz];simp only[ownR,T.isOwn,EV,bR,I];simp[←qI h]
    rw[this,jW hf.2]
theorem Inv.putRetP {cx:Cx}{D D':DSt}{P:List (DT×Value)}{a:Act}{w w':World}(I:Inv cx D P a.tmps w'){X:List Nat}{Y:Nat→Prop}{bx:List Nat}{od rd:b6}{v:Value}(R:RetOk w X Y w' bx od rd v)(l:ff cx rd)(q:PendOf P (rd.flatMap (·.2))){dst:Option Nat}
  (e:putRet mkD D dst rd=some D'):Inv cx D' [] (a.put dst v).tmps w':=by
 unfold Am.putRet at e;split at e
 ·cases e;exact I.dropP
 ·rename_i t;split at e
  case isFalse=>cases e
  rename_i y;rw[Ei]at e;obtain⟨s,hs,rfl⟩:=e;have m:VS D s v∧(∀x,(ownBl s).count x≤(a6 rd).count x)∧(∀u∈af s,Holds w' u∧KindR cx u)∧(∀u∈rootsO s,u.isOwn=true→OwnT w' u)∧sG w' s∧(∀k b ts off,s ≠ .im k b ts off)∧(∀f caps,s ≠ .fni f caps):=by
   have j:∀r∈rd,∀u∈r.2,Holds w' u∧KindR cx u:=fun r g u c=>⟨R.holds r (by simp[g]) u c,l r g u c⟩
   have h:∀r∈rd,∀u∈r.2,u.isOwn=true→OwnT w' u:=fun r g u c A=>R.own r (by simp[g]) u c A
   unfold jL at hs;split at hs
   ·rename_i r;split at hs
    ·rename_i b row B;cases hs;obtain⟨C,F,G,n,H⟩:=R.ptr l rfl B;exact⟨C,fun x=>Nat.le_of_eq (H x),fun u c=>⟨(n u c).1,(n u c).2.2⟩,fun u c=>(n u c).2.1,⟨F,G⟩,by simp,by simp⟩
    ·rename_i J;obtain⟨K,ts⟩:=r;rcases R.val with⟨r,g,hv⟩|⟨i,_⟩|⟨d,z,row,fs,g,_,_,_⟩
     ·cases g;cases K with
      |true =>cases hs;simp only[VPart,EV]at hv;exact⟨hv,fun x=>by simp[ownBl,a6],fun u c=>j _ (EN _) u c,fun u c=>h _ (EN _) u c,trivial,by simp,by simp⟩
      |false =>simp only[VPart,EE,E3]at hv;obtain⟨t',rfl,o⟩:=hv;cases hs;exact⟨o,fun x=>by simp[ownBl,a6],fun u c=>j _ (EN _) u c,fun u c=>h _ (EN _) u c,trivial,by simp,by simp⟩
     ·exact absurd rfl i
     ·cases g;cases hs
   ·rename_i i;cases hs;rcases R.val with⟨r,g,hv⟩|⟨_,hv⟩|⟨d,z,row,fs,g,_,_,_⟩
    ·exact absurd g (i r)
    ·refine⟨hv,fun x=>EQ _,fun u c=>?_,fun u c=>?_,trivial,by simp,by simp⟩
     ·simp only[af,Eq]at c;obtain⟨r,g,c⟩:=c;exact j r g u c
     ·simp only[rootsO,Eq]at c;obtain⟨r,g,c⟩:=c;exact h r g u c
    ·exact absurd g (i _)
  obtain⟨L,o,p,M,N,O,S⟩:=m;have U:cl cx D s:=by
   have g:∀u∈af s,aS cx D u:=fun u c=>(p u c).2.at
   cases s with
   |im k b ts off=>exact absurd rfl (O k b ts off)
   |fni f caps=>exact absurd rfl (S f caps)
   |_=>exact g
  refine Inv.put (P:=P) (Q:=[]) (by simpa using I) y L ⟨fun u c=>(p u c).1,M,N⟩ U ?_;intro b;rw[q.cnt, ←jK];exact o b
theorem Inv.putRet {cx:Cx}{D D':DSt}{a:Act}{w w':World}(I:Inv cx D [] a.tmps w)(g:Grew w w'){bx:List Nat}{rd:b6}{v:Value}{Y:Nat→Prop}(R:RetOk w [] Y w' bx [] rd v)(c:ff cx rd){dst:Option Nat}
  (e:putRet mkD D dst rd=some D'):Inv cx D' [] (a.put dst v).tmps w':=by
 obtain⟨P,d⟩:=cL R.each;have i:=I.world (Out.nil cx D) (g.x []) (R.pend (fun t f=>by
  obtain⟨r,j,f⟩:=Eq.1 f;exact⟨r,by simpa using j,f⟩) d (by simpa using c)) (fun b hb=>by
  rw[d.cnt, ←jK]at hb ⊢;have k:=R.once b;rw[EL]at k;obtain⟨l,m⟩:=R.new b (by rw[EL];exact Ew.1 hb);have h:w.heap.size≤b:=l.elim id fun q=>by cases q
  refine⟨by omega,?_,.inl (E7 I.frame.size h),m⟩;rcases E0 (aO D b)with q|q
  ·exact q
  ·have:=(I.bnd b (by omega)).2;omega)
 exact i.putRetP R c d e
theorem pg (t:DT):t.er.isFar=t.isFar:=by
 cases t with
 |v x=>rfl
 |any=>rfl
 |s k d z r=>rw[aq];cases k<;>rfl
theorem kH:∀(row fs:List DT),fillF (erL row) (erL fs)=erL (fillF row fs)
 |[],fs=>by cases fs<;>rfl
 |t::row,[]=>by show t.er::fillF (erL row) (erL [])=t.er::erL (fillF row []);rw[kH row []]
 | .any::row,f::fs=>by show f.er::fillF (erL row) (erL fs)=f.er::erL (fillF row fs);rw[kH row fs]
 | .v x::row,f::fs=>by show(.v x:T Unit)::fillF (erL row) (erL (f::fs))= .v x::erL (fillF row (f::fs));rw[kH row (f::fs)]
 | .s k d z r::row,f::fs=>by have e:(T.s k d z r:DT).er = .s k () z (r.map erL):=aq ..;show fillF ((T.s k d z r:DT).er::erL row) (erL (f::fs))=(T.s k d z r:DT).er::erL (fillF row (f::fs));rw[e, ←kH row (f::fs)];rfl
theorem wN (fs:List DT)(t:DT):kw mkU (erL fs) t.er=(kw mkD fs t).map fun p=>((),erL p.2):=by
 cases t with
 |v x=>rfl
 |any=>rfl
 |s k d z rows =>
  rw[aq]
  match rows with
  |[]=>cases k<;>rfl
  |[row]=>
   cases k with
   |own =>
    simp only[EB,E6,kw];rw[show(erL row).all T.fine=row.all T.fine from cg T.fine T.fine lQ row,show(erL fs).all T.isFar=fs.all T.isFar from cg T.isFar T.isFar pg fs];split
    ·simp only[Ee,kH]
    ·rfl
   |far=>rfl
   |lent h c a=>rfl
  |r1::b::rs=>cases k<;>rfl
theorem zh (r:Bool×List DT):mF mkU (r.1,erL r.2)=(mF mkD r).map fun p=>((),erL p.2):=by
 obtain⟨g,ts⟩:=r;cases g with
 |true=>rfl
 |false =>
  match ts with
  |[]=>rfl
  |[t]=>rfl
  |t::u::ts =>
   cases u with
   |any=>exact wN ts t
   |v x=>rfl
   |s k d z r=>simp only[erL,EB,E6,aq];rfl
theorem tb (rd:b6):(jL mkU (erR rd):Option (Sl Unit Unit))=(jL mkD rd:Option DSl).map Sl.er:=by
 match rd with
 |[]=>rfl
 |[r]=>
  simp only[erR,EB,E6,jL];rw[zh];cases mF mkD r with
  |none=>exact lU r.1 r.2
  |some p=>rfl
 |r::a::rs=>rfl
theorem rj (D:DSt)(dst:Option Nat)(rd:b6):putRet mkU (erD D) dst (erR rd)=(putRet mkD D dst rd).map erD:=by
 cases dst with
 |none=>rfl
 |some t =>
  simp only[putRet,ch];split
  ·rw[tb];cases(jL mkD rd:Option DSl)with
   |none=>rfl
   |some s=>simp only[Ee,bf]
  ·rfl
theorem xP (D:DSt)(x:Operand):boolOf mkU (erD D) x=boolOf mkD D x:=by
 simp only[boolOf,bn];cases opd mkD.nil D x with
 |none=>rfl
 |some s =>
  cases s with
  |one u =>
   cases u with
   |s k d z r=>simp[Sl.er,aq]
   |v x=>cases x<;>rfl
   |any=>rfl
  |_=>rfl
theorem Inv.boolOf {cx:Cx}{D:DSt}{P:List (DT×Value)}{a:Act}{w:World}(I:Inv cx D P a.tmps w){x:Operand}{b:Bool}(e:boolOf mkD D x=some b):a.eval x = .bool b:=by
 unfold Am.boolOf at e;split at e
 ·rename_i c h;cases e;exact(I.opd h).val.1
 ·cases e
theorem Inv.lose {cx:Cx}{D:DSt}{tm:Array Value}{w:World}(I:Inv cx D [] tm w){t:Nat}(d:t<D.length):Inv cx (aE D (some t) .any) [] tm w:=by
 have h:=Inv.put (P:=[]) (Q:=[]) (s := .any) (y:=tm.getD t undef) (by simpa using I) d trivial ⟨fun u a=>by simp[af]at a,fun u a=>by simp[rootsO]at a,trivial⟩
  (fun u a=>by simp[af]at a) (fun b=>by simp[ownBl])
 have c:t<tm.size:=by rw[←I.size];exact d
 have:tm.setIfInBounds t (tm.getD t undef)=tm:=by
  apply Array.ext
  ·simp
  ·intro i f g;rw[Gt];split
   ·rename_i e;subst e;simp[Array.getD,c]
   ·rfl
 rw[this]at h;exact h
section
variable  {δ β : Type}
def T.rootOf:T δ→Option (Nat×Nat)| .s (.lent h c true) _ _ _=>some (h,c)|_=>none
def gT:Nat→List (T δ)→Option (Nat×Nat×Nat)
 |_,[]=>none
 |j,u::us=>match u.rootOf with|some (h,c)=>some (h,c,j)|none=>gT (j+1) us
def cC:List (T δ)→List (T δ)→List (T δ)|t::ts,u::us=>(if t.isOwn=true then t else u)::cC ts us|_,_=>[]
def iW (h:Nat):Nat→List (T δ)→List (T δ)→Bool|_,[],[]=>true|j,t::ts,u::us=>(if t.isOwn=true then decide (u.rootOf=some (h,j))else(u.noLent && !u.isOwn))&&iW h (j+1) ts us|_,_,_=>false
def aggNode (D:St δ β)(ts:List (T δ))(h c j:Nat):Option (Sl δ β×St δ β):=
 match am D h c with
 |some (.s .own d z rows)=>if((ts.set j .any).all T.noLent=true∧(ts.set j .any).any T.isOwn=false)then(bU (fun _=>some .any) (St.dead (bM h c) (qHC h c) D) h c []).map fun D'=>(.agg (ts.set j (.s .own d z rows)),D')else none
 |_=>none
def homeTake (D:St δ β)(x:Operand):Option (Sl δ β×St δ β):=
 match x with
 | .tmp t =>
  match D[t]? with
  |some (.box b ts)=>if ts.all T.noLent=true then some (.box b ts,aB t D)else none
  |some (.pb h off)=>
   if off=0 then
    match D[h]? with
    |some (.box b ts)=>if ts.all T.noLent=true then some (.box b ts,aB h D)else none
    |_=>none
   else none
  |some (.al h c st lo len)=>
   match bC D h c st with
   |some (.s .own d z rows)=>if lo=0∧len=rows.length then(bU (fun _=>some .any) (St.dead (bM h c) (qHC h c) D) h c st).map fun D'=>(.one (.s .own d z rows),D')else none
   |_=>none
  |some (.one u)=>if u.isOwn=true then some (.one u,aB t D)else
   match u.rootOf with
   |some (h,c)=>
    match am D h c with
    |some (.s .own d z rows)=>(bU (fun _=>some .any) (St.dead (bM h c) (qHC h c) D) h c []).map fun D'=>(.one (.s .own d z rows),D')
    |_=>none
   |none=>none
  |some (.agg ts)=>if ts.all T.noLent=true then(if ts.any T.isOwn=true then some (.agg ts,aB t D)else none)else
   match gT 0 ts with
   |some (h,c,j)=>
    match D[h]? with
    |some (.box _ a)=>if iW h 0 a ts=true∧a.all T.noLent=true∧(cC a ts).any T.isOwn=true then some (.agg (cC a ts),aB h D)else aggNode D ts h c j
    |_=>aggNode D ts h c j
   |none=>none
  |_=>none
 |_=>none
def fS (rows:List (List (T δ))):T δ→Option (T δ)| .s k d z _=>some (.s k d z rows)|_=>none
def eA:List (T δ)→List (T δ)→List (T δ)|t::ts,u::us=>(if t.isOwn=true then u else t)::eA ts us|_,_=>[]
def nodePut (D:St δ β)(h c:Nat)(u:T δ):Option (St δ β):=
 match am D h c,u with
 |some (.s _ _ z _),.s .own _ b a=>if b=z then bU (fS a) (St.dead (bM h c) (gA h c) D) h c []else none
 |_,_=>none
def homePut0 (D D1:St δ β)(x:Operand)(o:Bool×List (T δ)):Option (St δ β):=
 match x with
 | .tmp t =>
  match D[t]? with
  |some (.box b _)=>some (aE D1 (some t) (.box b o.2))
  |some (.pb h _)=>
   match D[h]? with
   |some (.box b _)=>some (aE D1 (some h) (.box b o.2))
   |_=>none
  |some (.al h c st _ _)=>
   match bC D h c st,o.2 with
   |some (.s _ _ z _),[.s .own _ f a]=>if f=z then bU (fS a) (St.dead (bM h c) (gA h c) D) h c st else none
   |_,_=>none
  |some (.one u)=>
   match o.2 with
   |[.s .own d z rows]=>if u.isOwn=true then some (aE D1 (some t) (.one (.s .own d z rows)))else
    match u.rootOf with
    |some (h,c)=>nodePut D h c (.s .own d z rows)
    |none=>none
   |_=>none
  |some (.agg ts)=>if ts.all T.noLent=true then some (aE D1 (some t) (.agg o.2))else
   match gT 0 ts with
   |some (h,c,j)=>
    match D[h]? with
    |some (.box b e)=>if iW h 0 e ts=true∧e.all T.noLent=true∧(cC e ts).any T.isOwn=true then some (aE D1 (some h) (.box b (eA e o.2)))else(o.2[j]?).bind (nodePut D h c)
    |_=>(o.2[j]?).bind (nodePut D h c)
   |none=>none
  |_=>none
 |_=>none
end
theorem la (t:DT):t.er.rootOf=t.rootOf:=by
 cases t with
 |v x=>rfl
 |any=>rfl
 |s k d z r =>
  rw[aq];cases k with
  |lent h c a=>cases a<;>rfl
  |_=>rfl
theorem ny:∀(j:Nat)(us:List DT),gT j (erL us)=gT j us
 |_,[]=>rfl
 |j,u::us=>by
  simp only[erL,EB,gT,la];cases u.rootOf with
  |some p=>rfl
  |none=>exact ny (j+1) us
theorem qG:∀(ts us:List DT),erL (cC ts us)=cC (erL ts) (erL us)
 |[],us=>by cases us<;>rfl
 |t::ts,[]=>rfl
 |t::ts,u::us=>by have a:=qG ts us;simp only[erL,EB,cC,bP]at a ⊢;rw[a];cases t.isOwn<;>rfl
theorem vO:∀(ts us:List DT),erL (eA ts us)=eA (erL ts) (erL us)
 |[],us=>by cases us<;>rfl
 |t::ts,[]=>rfl
 |t::ts,u::us=>by have a:=vO ts us;simp only[erL,EB,eA,bP]at a ⊢;rw[a];cases t.isOwn<;>rfl
theorem nz (h:Nat):∀(j:Nat)(ts us:List DT),iW h j (erL ts) (erL us)=iW h j ts us
 |_,[],[]=>rfl
 |_,[],u::us=>rfl
 |_,t::ts,[]=>rfl
 |j,t::ts,u::us=>by have a:=nz h (j+1) ts us;simp only[erL,EB,iW,bP,la,cm]at a ⊢;rw[a]
theorem k8 (ts:List DT):(erL ts).any T.isOwn=ts.any T.isOwn:=by simp only[erL,Gm];congr 1;funext t;exact bP t
theorem gh (ts:List DT):(erL ts).all T.noLent=ts.all T.noLent:=cg T.noLent T.noLent cm ts
theorem rk (ts:List DT)(j:Nat)(u:DT):(erL ts).set j u.er=erL (ts.set j u):=by simp[erL,F0]
theorem s6 (D:DSt)(h c:Nat):bU (fun _=>some .any) (St.dead (bM h c) (qHC h c) (erD D)) h c []=(bU (fun _=>some .any) (St.dead (bM h c) (qHC h c) D) h c []).map erD:=by rw[show St.dead (bM h c) (qHC h c) (erD D)=erD (St.dead (bM h c) (qHC h c) D)from(gf _ _ D).symm,jn (f:=fun _=>some .any) (fun _=>rfl)]
theorem mt (D:DSt)(ts:List DT)(h c j:Nat):aggNode (erD D) (erL ts) h c j=(aggNode D ts h c j).map fun r=>(r.1.er,erD r.2):=by
 unfold aggNode;rw[fe];cases am D h c with
 |none=>rfl
 |some n =>
  cases n with
  |v x=>rfl
  |any=>rfl
  |s k d z rows =>
   cases k with
   |own =>
    simp only[Ee,aq];rw[show(erL ts).set j (T.any:T Unit)=erL (ts.set j .any)from rk ts j .any,gh,k8];split
    ·rw[s6,E8,E8];congr 1;funext D';simp only[Function.comp,Sl.er];rw[←rk,aq]
    ·rfl
   |_=>simp[aq]
theorem pS (D:DSt)(h c:Nat)(u:DT):nodePut (erD D) h c u.er=(nodePut D h c u).map erD:=by
 unfold nodePut;rw[fe];cases am D h c with
 |none=>rfl
 |some n =>
  cases n with
  |v x=>rfl
  |any=>rfl
  |s k d z rows =>
   simp only[Ee,aq];cases u with
   |v x=>rfl
   |any=>rfl
   |s k' b e a =>
    rw[aq];cases k' with
    |own =>
     simp only;split
     ·rw[show St.dead (bM h c) (gA h c) (erD D)=erD (St.dead (bM h c) (gA h c) D)from(gf _ _ D).symm,jn (f:=fS a)];intro t;cases t<;>simp[fS,aq,c8,lP]
     ·rfl
    |_=>rfl
theorem uU (D:DSt)(x:Operand):homeTake (erD D) x=(homeTake D x).map fun r=>(r.1.er,erD r.2):=by
 cases x with
 |tmp t =>
  simp only[homeTake,a8];cases D[t]? with
  |none=>rfl
  |some s =>
   cases s with
   |box b ts =>
    simp only[Ee,Sl.er];rw[cg T.noLent T.noLent cm];split
    ·simp only[Ee,eg,Sl.er]
    ·rfl
   |pb h off =>
    simp only[Ee,Sl.er,a8];split
    ·cases D[h]? with
     |none=>rfl
     |some s =>
      cases s with
      |box b ts =>
       simp only[Ee,Sl.er];rw[cg T.noLent T.noLent cm];split
       ·simp only[Ee,eg,Sl.er]
       ·rfl
      |_=>rfl
    ·rfl
   |al h c st lo len =>
    simp only[Ee,Sl.er,jT];cases bC D h c st with
    |none=>rfl
    |some n =>
     cases n with
     |v x=>rfl
     |any=>rfl
     |s k d z rows =>
      cases k with
      |own =>
       simp only[Ee,aq,EJ];split
       ·rw[show St.dead (bM h c) (qHC h c) (erD D)=erD (St.dead (bM h c) (qHC h c) D)from(gf _ _ D).symm,jn (f:=fun _=>some .any) (fun _=>rfl),E8,E8];congr 1;funext D';simp[Sl.er,aq]
       ·rfl
      |_=>simp[aq]
   |one u =>
    simp only[Ee,Sl.er,bP];split
    ·simp only[Ee,eg,Sl.er]
    ·rw[la];cases u.rootOf with
     |none=>rfl
     |some p =>
      obtain⟨h,c⟩:=p;simp only[fe];cases am D h c with
      |none=>rfl
      |some n =>
       cases n with
       |v x=>rfl
       |any=>rfl
       |s k d z rows =>
        cases k with
        |own =>simp only[Ee,aq];rw[s6,E8,E8];congr 1;funext D';simp[Sl.er,aq]
        |_=>simp[aq]
   |agg ts =>
    simp only[Ee,Sl.er];rw[gh,k8,ny];split
    ·split
     ·simp only[Ee,eg,Sl.er]
     ·rfl
    ·cases gT 0 ts with
     |none=>rfl
     |some p =>
      obtain⟨h,c,j⟩:=p;simp only[a8];cases D[h]? with
      |none=>exact mt D ts h c j
      |some s =>
       cases s with
       |box b a =>
        simp only[Ee,Sl.er];rw[nz,gh, ←qG,k8];split
        ·simp only[Ee,eg,Sl.er]
        ·exact mt D ts h c j
       |_=>exact mt D ts h c j
   |_=>rfl
 |_=>rfl
theorem uT (D D1:DSt)(x:Operand)(o:Bool×List DT):homePut0 (erD D) (erD D1) x (o.1,erL o.2)=(homePut0 D D1 x o).map erD:=by
 cases x with
 |tmp t =>
  simp only[homePut0,a8];cases D[t]? with
  |none=>rfl
  |some s =>
   cases s with
   |box b ts=>simp only[Ee,Sl.er,bf]
   |pb h off =>
    simp only[Ee,Sl.er,a8];cases D[h]? with
    |none=>rfl
    |some s=>cases s<;>first|rfl|simp only[Ee,Sl.er,bf]
   |al h c st lo len =>
    simp only[Ee,Sl.er,jT];cases bC D h c st with
    |none=>rfl
    |some n =>
     cases n with
     |v x=>rfl
     |any=>rfl
     |s k d z rows =>
      simp only[Ee,aq];obtain⟨g,us⟩:=o
      match us with
      |[]=>rfl
      |[.v x]=>rfl
      |[.any]=>rfl
      |[.s .far e i a]=>simp[aq]
      |[.s (.lent _ _ _) e i a]=>simp[aq]
      |[.s .own e i a]=>
       simp only[EB,E6,aq];split
       ·rw[show St.dead (bM h c) (gA h c) (erD D)=erD (St.dead (bM h c) (gA h c) D)from(gf _ _ D).symm,jn (f:=fS a)];intro t;cases t<;>simp[fS,aq,c8,lP]
       ·rfl
      |u::u'::us =>
       cases u with
       |v x=>rfl
       |any=>rfl
       |s k d z r=>cases k<;>rfl
   |one u =>
    simp only[Ee,Sl.er];obtain⟨g,us⟩:=o
    match us with
    |[]=>rfl
    |[.v x]=>rfl
    |[.any]=>rfl
    |[.s .far e i a]=>simp[aq]
    |[.s (.lent _ _ _) e i a]=>simp[aq]
    |[.s .own e i a]=>
     simp only[EB,E6,aq,bP,la];split
     ·simp[aq,bf,Sl.er]
     ·cases u.rootOf with
      |none=>rfl
      |some p =>have:=pS D p.1 p.2 (.s .own e i a);rw[aq]at this;exact this
    |u::u'::us =>
     cases u with
     |v x=>rfl
     |any=>rfl
     |s k d z r=>cases k<;>rfl
   |agg ts =>
    simp only[Ee,Sl.er,gh,ny];split
    ·simp only[Ee,Sl.er,bf]
    ·have hb:∀(h c j:Nat),((erL o.2)[j]?).bind (nodePut (erD D) h c)=((o.2[j]?).bind (nodePut D h c)).map erD:=by
      intro h c j;simp only[erL,Et];cases o.2[j]? with
      |none=>rfl
      |some u=>exact pS D h c u
     cases gT 0 ts with
     |none=>rfl
     |some p =>
      obtain⟨h,c,j⟩:=p;simp only[a8];cases D[h]? with
      |none=>exact hb h c j
      |some s =>
       cases s with
       |box b l =>
        simp only[Ee,Sl.er];rw[nz,gh, ←qG,k8];split
        ·simp only[Ee,bf,Sl.er,vO]
        ·exact hb h c j
       |_=>exact hb h c j
   |_=>rfl
 |_=>rfl
theorem fj {δ β:Type}(t:Nat)(D:St δ β):(aB t D).length=D.length:=by simp[aB,St.dead]
theorem bX {α:Type}{l:List α}{t:Nat}{x:α}(h:l[t]?=some x):t<l.length:=by
 rcases Em t l.length with g|g
 ·exact g
 ·rw[Ek g]at h;cases h
theorem oG {D:DSt}{t:Nat}{s:DSl}(h:D[t]?=some s)(b:Nat):aO (aB t D) b+(ownBl s).count b=aO D b:=by
 have hs:(bB t D)[t]?=some (s.clean t):=by unfold bB;rw[Et];unfold St.dead;rw[Et,h];rfl
 have a:=aV ownBl (.any:DSl) b (bB t D) t _ hs;have d:(ownBl (.any:DSl)).count b=0:=rfl;have e:=pJ t D b;rw[oU]at a;have c:aB t D=(bB t D).set t .any:=rfl;rw[c];unfold aO at *;omega
theorem qS {tm:Array Value}{t:Nat}(a:t<tm.size):tm.setIfInBounds t (tm.getD t undef)=tm:=by
 apply Array.ext
 ·simp
 ·intro i b c;rw[Gt];split
  ·rename_i e;subst e;simp[Array.getD,a]
  ·rfl
theorem Inv.takeSlot {cx:Cx}{D:DSt}{tm:Array Value}{w:World}(I:Inv cx D [] tm w){t:Nat}{s:DSl}{y:Value}(hs:D[t]?=some s)(l:(∃b ts,s = .box b ts)∨(∃u,s = .one u)∨∃ts,s = .agg ts)
  {Y:Nat→Prop} (Q:∀b,cx.far b→¬Y b) (L:∀u∈rootsO s,u.noLent=true) (hv:∀D,VS D s y):∃P,Inv cx (aB t D) P tm w∧Out cx (aB t D) (ownBl s)∧AOk w (ownBl s) Y s y∧∀b,(ownBl s).count b≤1:=by
 have a:=Ef hs;have M:=I.mem s a;have m:=I.kind s a;have i:af s=rootsO s:=by rcases l with⟨b,ts,rfl⟩|⟨u,rfl⟩|⟨ts,rfl⟩<;>rfl
 have n:∀u∈rootsO s,∃y,VT u y:=by
  have B:=I.val t s hs;rcases l with⟨b,ts,rfl⟩|⟨u,rfl⟩|⟨ts,rfl⟩
  ·obtain⟨c,e,f,N,o⟩:=M.2.2.1;intro u g;obtain⟨j,R⟩:=En g;obtain⟨y,_,S⟩:=o j u R;exact⟨y,S⟩
  ·intro v hv;simp[rootsO]at hv;subst hv;exact⟨_,B⟩
  ·obtain⟨cs,_,o⟩:=B;exact o.each
 obtain⟨P,G⟩:=cL n;have C:∀b,((rootsO s).flatMap ownR).count b≤(ownBl s).count b:=by
  intro b;rcases l with⟨H,ts,rfl⟩|⟨u,rfl⟩|⟨ts,rfl⟩
  ·simp only[rootsO,ownBl,Fu];omega
  ·simp[rootsO,ownBl]
  ·simp[rootsO,ownBl]
 have q:∀p∈P,p.1∈rootsO s:=fun p A=>by rw[←G.1];exact Ex.2 ⟨p,A,rfl⟩
 have J:=Inv.take I (cs:=P) hs (fun p A=>⟨q p A,i ▸ q p A,G.2 p A⟩) (fun p A h c U d z r e=>by have:=L _ (q p A);rw[e]at this;cases this) (fun b=>by rw[G.cnt];exact C b) (by rcases l with⟨H,ts,rfl⟩|⟨u,rfl⟩|⟨ts,rfl⟩<;>simp) (by rcases l with⟨H,ts,rfl⟩|⟨u,rfl⟩|⟨ts,rfl⟩<;>simp);rw[EH]at J;have F:∀b,(ownBl s).count b≤1:=fun b=>by have N:=oG hs b;have o:=I.once b;rw[bw]at o;omega
 have O:Out cx (aB t D) (ownBl s):=fun b hb=>by have X:=Ew.2 hb;have N:=oG hs b;have o:=I.once b;rw[bw]at o;have Z:=br a hb;exact⟨(I.bnd b (by omega)).1,by omega⟩
 refine⟨P,J,O,⟨hv,M,fun D'=>?_,fun b hb=>⟨hb,(I.bnd b (by have:=br a hb;omega)).2⟩⟩,F⟩;have K:∀u∈rootsO s,aS cx D u→aS ⟨w,ownBl s,Y⟩ D' u:=by
  intro u g l;have V:=L u g;cases u with
  |v x=>trivial
  |any=>trivial
  |s k d z r =>
   cases k with
   |own=>trivial
   |lent h c U=>cases V
   |far=>exact fun x W=>J.farY O Q (l x W)
 rcases l with⟨H,ts,rfl⟩|⟨u,rfl⟩|⟨ts,rfl⟩
 ·exact fun u g=>K u g (m u g)
 ·exact fun u g=>K u g (m u g)
 ·exact fun u g=>K u g (m u g)
theorem eo {ts:List DT}(h:ts.all T.noLent=true):∀u∈ts,u.noLent=true:=fun u a=>Eo.1 h u a
theorem Dec.addr_sp {d:Dec}(h:d.sp=none):d.addr=if d.nil=true then none else some ⟨d.b,d.o,none⟩:=Dec.addr_none h
theorem Inv.alNode {cx:Cx}{D:DSt}{P:List (DT×Value)}{tm:Array Value}{w:World}(I:Inv cx D P tm w){t h c:Nat}{st:List (Nat×Nat)}{d:Dec}{z:Nat}{rows:List (List DT)}(k:D[t]?=some (.al h c st 0 rows.length))(b:bC D h c st=some (.s .own d z rows)):
  ∃u,am D h c=some u∧u.isOwn=true∧getN u st=some (.s .own d z rows)∧Holds w (.s .own d z rows)∧OwnT w (.s .own d z rows)∧VT (.s .own d z rows:DT) (tm.getD t undef):=by
 obtain⟨r,s,n,ad,a,l,m,v,e⟩:=I.val t _ k;obtain⟨o,x,f,g,p,i,y,q,j⟩:=I.node a;simp only[bC,g,Eg]at b;rw[i]at b;cases b;refine⟨o,g,p,i,q,j,?_⟩;show tm.getD t undef=_;rw[m,Nat.sub_zero,e rfl,Dec.addr_sp j.sp]
theorem Inv.nodeTake {cx:Cx}{D:DSt}{tm:Array Value}{w:World}(I:Inv cx D [] tm w){h c:Nat}{d:Dec}{z:Nat}{rows:List (List DT)}(o:am D h c=some (.s .own d z rows)){D1:DSt}
  (e:bU (fun _=>some .any) (St.dead (bM h c) (qHC h c) D) h c []=some D1):
  ∃P,Inv cx D1 P tm w∧Out cx D1 (bl (.s .own d z rows))∧(∀b,(bl (.s .own d z rows)).count b≤1)∧(∀b∈bl (.s .own d z rows),b<w.heap.size)∧Holds w (.s .own d z rows)∧OwnT w (.s .own d z rows):=by
 have A:=I.dead (bM h c) (qHC h c);have i:=dp (p:=bM h c) (q:=qHC h c) o rfl;unfold bU at e;rw[i,Eg]at e;simp only[cV,Eg]at e;obtain⟨B,C,f,r,j,t⟩:=be o;have k:=I.mem B f;have v:=k.1 _ r;have x:=k.2.1 _ j rfl;have g:=I.bl_once o rfl;have l:∀b∈bl (.s .own d z rows),0<aO D b:=fun b hb=>br f (t rfl b hb)
 have m:∀b∈bl (.s .own d z rows),b<w.heap.size:=fun b hb=>(I.bnd b (by have:=l b hb;omega)).2
 have a:ownR (.s .own d z rows:DT)=bl (.s .own d z rows):=by simp[ownR,T.isOwn]
 have u:=A.upd (P':=[(.s .own d z rows,.slice d.addr rows.length d.cap)]) (w':=w) e
  {at_:=i,own:=rfl,holds := .any,ownT:=fun h=>(by cases h),kind := .inr rfl,val:=fun _ h=>h.one,
   cnt:=fun b=>by
    rw[fd,bw,a];have F:(ownR (.any:DT)).count b=0:=rfl;split
    ·omega
    ·have:=g b;omega,
   new:=fun b hb n=>by exfalso;rw[fd,bw,a]at n;have F:(ownR (.any:DT)).count b=0:=rfl;have:=m b (Ew.1 (by omega));omega,
   hides:=fun s hs=>(kh s hs).1,
   speak:=fun s hs st hsp=>absurd hsp ((kh s hs).2 st),
   size:=EQ _,same:=fun _ _ _=>rfl,os:=rfl,tape:=rfl,output:=rfl,
   pend:=fun p y=>by rw[Er]at y;subst y;exact⟨rfl,v,fun _=>x,fun h=>by cases h⟩ }
 refine⟨_,u,fun b hb=>?_,g,m,v,x⟩;have G:=u.once b;rw[fd,bw,a]at G;have H:=Ew.2 hb;exact⟨(u.bnd b (by rw[fd,bw,a];omega)).1,by omega⟩
theorem Inv.root {cx:Cx}{D:DSt}{u:DT}{h c:Nat}{y:Value}(b:u.rootOf=some (h,c))(e:aS cx D u)(hv:VT u y):∃d z rows,am D h c=some (.s .own d z rows)∧y = .slice d.addr rows.length d.cap:=by
 cases u with
 |v x=>cases b
 |any=>cases b
 |s k d z r =>
  cases k with
  |lent m n f =>
   cases f with
   |false=>cases b
   |true =>cases b;obtain⟨t,g,o,p,i⟩:=e;obtain⟨j,a,rfl,l⟩:=i rfl;exact⟨d,j,a,g,by rw[l];exact hv⟩
  |_=>cases b
theorem lG:∀{j:Nat}{us:List DT}{h c i:Nat},gT j us=some (h,c,i)→∃u,j≤i∧us[i-j]?=some u∧u.rootOf=some (h,c)
 |j,[],h,c,i,e=>by cases e
 |j,u::us,h,c,i,e=>by
  unfold gT at e;cases a:u.rootOf with
  |some p =>rw[a]at e;cases e;exact⟨u,EQ _,by simp,a⟩
  |none =>rw[a]at e;obtain⟨v,f,b,d⟩:=lG e;refine⟨v,by omega,?_,d⟩;rw[show i-j=(i-(j+1))+1 by omega];simpa using b
theorem qh {h:Nat}:∀{j:Nat}{ts us:List DT},iW h j ts us=true→ts.length=us.length∧∀(i:Nat)(t u:DT),ts[i]?=some t→us[i]?=some u →
  (t.isOwn=true→u.rootOf=some (h,j+i))∧(t.isOwn=false→u.noLent=true∧u.isOwn=false)
 |_,[],[],_=>⟨rfl,fun i t u h=>by simp at h⟩
 |_,[],u::us,e=>by cases e
 |_,t::ts,[],e=>by cases e
 |j,t::ts,u::us,e=>by
  unfold iW at e;rw[EF]at e;obtain⟨a,d⟩:=e;obtain⟨f,g⟩:=qh d;refine⟨by simp[f],fun i t' u' hi b=>?_⟩;cases i with
  |zero =>
   simp at hi b;subst hi;subst b;split at a
   ·rename_i c;exact⟨fun _=>by simpa using a,fun q=>by rw[c]at q;cases q⟩
   ·rename_i c;refine⟨fun q=>absurd q c,fun _=>?_⟩;rw[EF]at a;exact⟨a.1,by simpa using a.2⟩
  |succ i =>have:=g i t' u' (by simpa using hi) (by simpa using b);rw[show j+(i+1)=j+1+i by omega];exact this
theorem pq:∀{ts us:List DT}{i:Nat}{x:DT},(cC ts us)[i]?=some x→∃t u,ts[i]?=some t∧us[i]?=some u∧x=if t.isOwn=true then t else u
 |[],us,i,x,e=>by cases us<;>simp[cC]at e
 |t::ts,[],i,x,e=>by simp[cC]at e
 |t::ts,u::us,0,x,e=>by simp only[cC,FN,EY]at e;exact⟨t,u,rfl,rfl,e.symm⟩
 |t::ts,u::us,i+1,x,e=>by simp only[cC,FM]at e;obtain⟨t',u',a,b,c⟩:=pq e;exact⟨t',u',by simpa using a,by simpa using b,c⟩
theorem tQ:∀{ts us:List DT},ts.length=us.length→(cC ts us).length=ts.length
 |[],[],_=>rfl
 |[],u::us,h=>by simp at h
 |t::ts,[],h=>by simp at h
 |t::ts,u::us,h=>by simp only[cC,FZ];rw[tQ (by simpa using h)]
theorem tR:∀{ts us:List DT},(∀(i:Nat)(t u:DT),ts[i]?=some t→us[i]?=some u→t.isOwn=false→u.isOwn=false)→∀b,((cC ts us).flatMap ownR).count b≤(ts.flatMap ownR).count b
 |[],us,_,b=>by cases us<;>simp[cC]
 |t::ts,[],_,b=>by simp[cC]
 |t::ts,u::us,h,b=>by
  have c:=tR (ts:=ts) (us:=us) (fun i t u d e=>h (i+1) t u (by simpa using d) (by simpa using e)) b;simp only[cC,Ez,ED];cases a:t.isOwn with
  |true=>rw[Ej rfl];omega
  |false =>rw[Eu E5,cD (h 0 t u rfl rfl a),cD a];simpa using c
theorem pr:∀{ts us:List DT}{i:Nat}{x:DT},(eA ts us)[i]?=some x→∃t u,ts[i]?=some t∧us[i]?=some u∧x=if t.isOwn=true then u else t
 |[],us,i,x,e=>by cases us<;>simp[eA]at e
 |t::ts,[],i,x,e=>by simp[eA]at e
 |t::ts,u::us,0,x,e=>by simp only[eA,FN,EY]at e;exact⟨t,u,rfl,rfl,e.symm⟩
 |t::ts,u::us,i+1,x,e=>by simp only[eA,FM]at e;obtain⟨t',u',a,b,c⟩:=pr e;exact⟨t',u',by simpa using a,by simpa using b,c⟩
theorem tT:∀{ts us:List DT}(b:Nat),((eA ts us).flatMap ownR).count b≤(us.flatMap ownR).count b
 |[],us,b=>by cases us<;>simp[eA]
 |t::ts,[],b=>by simp[eA]
 |t::ts,u::us,b=>by
  have c:=tT (ts:=ts) (us:=us) b;simp only[eA,Ez,ED];cases a:t.isOwn with
  |true=>rw[Ej rfl];omega
  |false=>rw[Eu E5,cD a];simp;omega
theorem pW {u:DT}(h:u.noLent=true):u.isOwn=true∨bl u=[]∨∃d z r,u = .s .far d z r:=by
 cases u with
 |v x=>exact .inr (.inl (by simp[bl]))
 |any=>exact .inr (.inl (by simp[bl]))
 |s k d z r=>cases k<;>first|exact .inl rfl|exact .inr (.inr ⟨_,_,_,rfl⟩)|cases h
theorem qW {cx:Cx}{D D':DSt}{w:World}{X:List Nat}{Y:Nat→Prop}{u:DT}(a:u.noLent=true)(e:aS cx D u)(hf:∀b,cx.far b→(Cx.mk w X Y).far b):aS ⟨w,X,Y⟩ D' u:=by
 cases u with
 |v x=>trivial
 |any=>trivial
 |s k d z r =>
  cases k with
  |own=>trivial
  |lent h c g=>cases a
  |far=>exact fun x f=>hf x (e x f)
theorem Inv.aggNode {cx:Cx}{D:DSt}{a:Act}{w:World}(I:Inv cx D [] a.tmps w){t:Nat}{ts:List DT}(hD:D[t]?=some (.agg ts)){h c j:Nat}{u:DT}(hj:ts[j]?=some u)(Q:u.rootOf=some (h,c)){s:DSl}{D1:DSt}
  {Y:Nat→Prop} (R:∀b,cx.far b→¬Y b) (e:Am.aggNode D ts h c j=some (s,D1)):∃d z rows,am D h c=some (.s .own d z rows)∧s = .agg (ts.set j (.s .own d z rows))∧ownBl s=bl (.s .own d z rows) ∧
   ∃P,Inv cx D1 P a.tmps w∧Out cx D1 (ownBl s)∧AOk w (ownBl s) Y s (a.eval (.tmp t))∧(∀b,(ownBl s).count b≤1)∧(bE s).isSome=true∧OwnT w (.s .own d z rows):=by
 obtain⟨cs,S,m⟩:=I.val t _ hD;have o:=Ef hD;have U:=I.mem _ o;have C:=I.kind _ o;have n:j<ts.length:=bX hj;have p:j<cs.toList.length:=by rw[←m.1];exact n
 have G:=m.2 j u _ hj (El p);obtain⟨d,z,rows,H,V⟩:=Inv.root Q (C u (Ef hj)) G;unfold Am.aggNode at e;rw[H]at e;simp only at e;split at e
 case isFalse=>cases e
 rename_i k;rw[Ei]at e;obtain⟨D',W,X⟩:=e;cases X;obtain⟨P,L,M,Z,n4,n5,N⟩:=I.nodeTake H W;have r:∀v∈ts.set j .any,v.isOwn=false:=by have:=k.2;rw[F4]at this;intro v hv;have:=this v hv;simpa using this
 have F:∀b,((ts.set j (.s .own d z rows)).flatMap ownR).count b=(bl (.s .own d z rows)).count b:=by
  intro b;have q:=aV ownR (.s .own d z rows:DT) b ts j u hj;have B:=aV ownR (.any:DT) b ts j u hj;have q3:((ts.set j .any).flatMap ownR)=[]:=by rw[Ey];exact fun v hv=>cD (r v hv)
  have q4:(ownR (.any:DT)).count b=0:=rfl;have q5:ownR (.s .own d z rows:DT)=bl (.s .own d z rows):=by simp[ownR,T.isOwn]
  rw[q3]at B;rw[q5]at q;simp only[GJ]at B;omega
 have g:∀(i:Nat)(v:DT),(ts.set j (.s .own d z rows))[i]?=some v→(i=j∧v = .s .own d z rows)∨(i≠j∧ts[i]?=some v∧v∈ts.set j .any):=by
  intro i v hi;by_cases q:i=j
  ·subst q;rw[Ep n]at hi;cases hi;exact .inl ⟨rfl,rfl⟩
  ·rw[Es (fun J=>q J.symm)]at hi;exact .inr ⟨q,hi,Ef (i:=i) (by rw[Es (fun J=>q J.symm)];exact hi)⟩
 have G4:∀b,b∈ownBl (.agg (ts.set j (.s .own d z rows)))↔b∈bl (.s .own d z rows):=fun b=>by rw[←Ew, ←Ew];show 0<((ts.set j (.s .own d z rows)).flatMap ownR).count b↔_;rw[F]
 have f:ownBl (.agg (ts.set j (.s .own d z rows)))=bl (.s .own d z rows):=by
  show(ts.set j (.s .own d z rows)).flatMap ownR=_;have K:∀(l:List DT)(i:Nat),i<l.length→(∀v∈l.set i .any,v.isOwn=false)→(l.set i (.s .own d z rows)).flatMap ownR=bl (.s .own d z rows):=by
   intro l;induction l with
   |nil=>intro i hi;simp at hi
   |cons x l ih =>
    intro i hi hv;cases i with
    |zero =>
     simp only[List.set_cons_zero,Ez];have:l.flatMap ownR=[]:=by rw[Ey];exact fun v y=>cD (hv v (by simp[y]))
     rw[this];simp[ownR,T.isOwn]
    |succ i =>simp only[List.set_cons_succ,Ez];rw[cD (hv x (by simp)),ih i (by simpa using hi) (fun v y=>hv v (by simp[y]))];rfl
  exact K ts j n r
 refine⟨d,z,rows,H,rfl,f,P,L,?_,?_,?_,?_,N⟩
 ·rw[f];exact M
 ·rw[f];refine⟨fun _=>⟨cs,S,⟨by rw[Gn];exact m.1,fun i v y' hi A=>?_⟩⟩,⟨fun v hv=>?_,fun v hv O=>?_,trivial⟩,fun D' v hv=>?_,fun b hb=>?_⟩
  ·rcases g i v hi with⟨rfl,rfl⟩|⟨_,q,_⟩
   ·rw[El p]at A;cases A;exact V
   ·exact m.2 i v y' q A
  ·obtain⟨i,hi⟩:=En hv;rcases g i v hi with⟨rfl,rfl⟩|⟨_,q,_⟩
   ·exact n5
   ·exact U.1 v (Ef q)
  ·obtain⟨i,hi⟩:=En hv;rcases g i v hi with⟨rfl,rfl⟩|⟨_,q,B⟩
   ·exact N
   ·rw[r v B]at O;cases O
  ·obtain⟨i,hi⟩:=En hv;rcases g i v hi with⟨rfl,rfl⟩|⟨_,q,B⟩
   ·trivial
   ·exact qW (eo k.1 v B) (C v (Ef q)) fun b hb=>L.farY M R hb
  ·rw[f]at hb;exact⟨hb,n4 b hb⟩
 ·intro b;rw[f];exact Z b
 ·simp only[bE];rw[Ej]
  ·rfl
  ·rw[Fw];exact⟨_,List.mem_set n _,rfl⟩
theorem Inv.boxAgg {cx:Cx}{D:DSt}{a:Act}{w:World}(I:Inv cx D [] a.tmps w){t h:Nat}{ts c:List DT}{b:Nat×Nat}(hD:D[t]?=some (.agg ts))(hb:D[h]?=some (.box b c))(X:iW h 0 c ts=true)(Z:c.all T.noLent=true){Y:Nat→Prop}(O:∀b,cx.far b→¬Y b):
  ∃P,Inv cx (aB h D) P a.tmps w∧Out cx (aB h D) (ownBl (.agg (cC c ts)))∧AOk w (ownBl (.agg (cC c ts))) Y (.agg (cC c ts)) (a.eval (.tmp t))∧(∀x,(ownBl (.agg (cC c ts))).count x≤1) ∧
   (Out cx (aB h D) (ownBl (.box b c))∧b.1∉ownBl (.agg (cC c ts))∧b.1<w.heap.size)∧∀cs:Array Value,a.eval (.tmp t)= .agg cs→∀(i:Nat)(x:DT)(y:Value),c[i]?=some x→x.isOwn=true→cs.toList[i]?=some y→VT x y:=by
 obtain⟨cs,Q,F⟩:=I.val t _ hD;have p:=Ef hD;have hm:=I.mem _ p;have G:=I.kind _ p;obtain⟨P,R,S,J,U⟩:=I.takeSlot hb (.inl ⟨b,c,rfl⟩) O (eo Z) (y := .pointer (some ⟨b.1,b.2,none⟩)) (fun _=>rfl);obtain⟨l,e⟩:=qh X;have m:=tR (ts:=c) (us:=ts) (fun i t u q1 q2 j=>((e i t u q1 q2).2 j).2);have A:∀x∈ownBl (.agg (cC c ts)),x∈ownBl (.box b c):=fun x f=>by have q:=m x;have q2:=Ew.2 (show x∈(cC c ts).flatMap ownR from f);exact FS _ (Ew.1 (by omega))
 have V:Out cx (aB h D) (ownBl (.agg (cC c ts))):=fun x f=>S x (A x f)
 have B:∀(i:Nat)(x:DT)(y:Value),c[i]?=some x→x.isOwn=true→cs.toList[i]?=some y→VT x y:=by
  intro i x y hi g o;have K:i<ts.length:=by rw[←l];exact bX hi
  have hu:=El K;have L:=(e i x _ hi hu).1 g;obtain⟨d,z,rows,W,g2⟩:=Inv.root L (G _ (Ef hu)) (F.2 i _ y hu o);have:am D h (0+i)=some x:=by rw[FI];unfold am;rw[hb];exact hi
  rw[this]at W;cases W;exact g2
 have n:∀x∈cC c ts,(x∈c∧x.isOwn=true)∨(x∈ts∧x.noLent=true∧x.isOwn=false):=by
  intro x f;obtain⟨i,hi⟩:=En f;obtain⟨t',u',q1,q2,j⟩:=pq hi;cases g:t'.isOwn with
  |true=>rw[g,Ej rfl]at j;subst j;exact .inl ⟨Ef q1,g⟩
  |false =>rw[g,Eu E5]at j;subst j;have:=(e i t' x q1 q2).2 g;exact .inr ⟨Ef q2,this.1,this.2⟩
 have H:∀x,(ownBl (.agg (cC c ts))).count x≤1:=fun x=>by
  have q:=m x;have q2:=U x;have j:(ownBl (.box b c)).count x=(if b.1=x then 1 else 0)+(c.flatMap ownR).count x:=by simp only[ownBl,Fu,GC];omega
  show((cC c ts).flatMap ownR).count x≤1;omega
 have M:b.1∉ownBl (.agg (cC c ts)):=fun f=>by
  have q:=m b.1;have q1:=Ew.2 (show b.1∈(cC c ts).flatMap ownR from f);have q2:=U b.1;have j:(ownBl (.box b c)).count b.1=1+(c.flatMap ownR).count b.1:=by simp only[ownBl,List.count_cons_self];omega
  omega
 refine⟨P,R,V,⟨fun _=>⟨cs,Q,⟨by rw[tQ l,l];exact F.1,fun i x y hi o=>?_⟩⟩,⟨fun x f=>?_,fun x f g=>?_,trivial⟩,fun D' x f=>?_,fun x f=>⟨f,(J.own x (A x f)).2⟩⟩,H,⟨S,M,(J.own b.1 (by simp[ownBl])).2⟩,fun N C=>?_⟩
 ·obtain⟨t',u',q1,q2,j⟩:=pq hi;cases g:t'.isOwn with
  |true=>rw[g,Ej rfl]at j;subst j;exact B i x y q1 g o
  |false=>rw[g,Eu E5]at j;subst j;exact F.2 i x y q2 o
 ·rcases n x f with⟨q,_⟩|⟨q,_⟩
  ·exact J.mem.1 x q
  ·exact hm.1 x q
 ·rcases n x f with⟨q,_⟩|⟨q,_,q2⟩
  ·exact J.mem.2.1 x q g
  ·rw[q2]at g;cases g
 ·rcases n x f with⟨q,q2⟩|⟨q,q2,_⟩
  ·cases x with
   |v y=>trivial
   |any=>trivial
   |s k d z r=>cases k<;>first|trivial|cases q2
  ·exact qW q2 (G x q) fun b hb=>R.farY V O hb
 ·have:N=cs:=by have hh:a.eval (.tmp t)= .agg cs:=Q;rw[hh]at C;cases C;rfl
  subst this;exact B
theorem Inv.homeTake {cx:Cx}{D:DSt}{a:Act}{w:World}(I:Inv cx D [] a.tmps w){x:Operand}{s:DSl}{D1:DSt}{Y:Nat→Prop}(p:∀b,cx.far b→¬Y b)(e:Am.homeTake D x=some (s,D1)):
  ∃P,Inv cx D1 P a.tmps w∧Out cx D1 (ownBl s)∧AOk w (ownBl s) Y s (a.eval x)∧(∀b,(ownBl s).count b≤1)∧(bE s).isSome=true:=by
 cases x with
 |tmp t =>
  simp only[Am.homeTake]at e;split at e
  ·rename_i b ts hD;split at e
   case isFalse=>cases e
   rename_i A;cases e;obtain⟨P,f,g,l,n⟩:=I.takeSlot hD (.inl ⟨b,ts,rfl⟩) p (eo A) (fun _=>I.val t _ hD);exact⟨P,f,g,l,n,rfl⟩
  ·rename_i h off hD;split at e
   case isFalse=>cases e
   rename_i B;subst B;split at e
   case h_2=>cases e
   rename_i b ts hb;split at e
   case isFalse=>cases e
   rename_i A;cases e;obtain⟨b',ts',C,W⟩:=I.val t _ hD;rw[hb]at C;cases C;obtain⟨P,f,g,l,n⟩:=I.takeSlot hb (.inl ⟨b,ts,rfl⟩) p (eo A) (y:=a.eval (.tmp t)) (fun _=>W);exact⟨P,f,g,l,n,rfl⟩
  ·rename_i h c st lo len hD;split at e
   case h_2=>cases e
   rename_i d z rows X;split at e
   case isFalse=>cases e
   rename_i hc;obtain⟨rfl,rfl⟩:=hc;rw[Ei]at e;obtain⟨D2,K,e⟩:=e;cases e;have L:Am.cellsTake mkD D (.tmp t)=some (false,[.s .own d z rows],D1):=by simp only[Am.cellsTake,hD,X];rw[Ej (Or.inl trivial),K];simp[mkD]
   obtain⟨ys,P,f,g,l⟩:=I.cellsTake L;have M:ys=[a.eval (.tmp t)]:=by simpa[bd]using l
   subst M;have i:∀b,(ownR (.s .own d z rows:DT)).count b≤az P b:=fun b=>by simpa using g.cnt b
   have Z:Out cx D1 (ownBl (.one (.s .own d z rows))):=fun b hb=>by have F:=Ew.2 (show b∈ownR (.s .own d z rows:DT)from hb);have q:=i b;have G:=f.once b;exact⟨(f.bnd b (by omega)).1,by omega⟩
   refine⟨P,f,Z,⟨fun _=>g.v.2 0 _ _ rfl rfl,⟨fun u H=>g.holds u H,fun u H J=>g.own u H J,trivial⟩,fun D' u H=>?_,fun b hb=>⟨hb,?_⟩⟩,fun b=>?_,rfl⟩
   ·rw[Er.1 H];trivial
   ·have F:=Ew.2 (show b∈ownR (.s .own d z rows:DT)from hb);have q:=i b;exact(f.bnd b (by omega)).2
   ·have q:=i b;have G:=f.once b;show(ownR (.s .own d z rows:DT)).count b≤1;omega
  ·rename_i u hD;split at e
   case isFalse =>
    split at e
    case h_2=>cases e
    rename_i h c N;split at e
    case h_2=>cases e
    rename_i d z rows hc;rw[Ei]at e;obtain⟨D',e1,e2⟩:=e;cases e2;obtain⟨P,n1,n2,n3,n4,n5,n6⟩:=I.nodeTake hc e1;obtain⟨d',z',O,U,g2⟩:=Inv.root N (I.kind _ (Ef hD) u (by simp[af])) (I.val t _ hD);rw[hc]at U;cases U;have o:ownBl (.one (.s .own d z rows):DSl)=bl (.s .own d z rows):=by simp[ownBl,ownR,T.isOwn]
    refine⟨P,n1,by rw[o];exact n2,⟨fun _=>g2,⟨fun v hv=>?_,fun v hv _=>?_,trivial⟩,fun D' v hv=>?_,fun b hb=>?_⟩,fun b=>by rw[o];exact n3 b,rfl⟩
    ·rw[Er.1 hv];exact n5
    ·rw[Er.1 hv];exact n6
    ·rw[Er.1 hv];trivial
    ·exact⟨hb,n4 b (o ▸ hb)⟩
   rename_i J;cases e;obtain⟨P,f,g,l,n⟩:=I.takeSlot hD (.inr (.inl ⟨u,rfl⟩)) p (fun v hv=>by
    simp[rootsO]at hv;subst hv;cases v with
    |v x=>rfl
    |any=>rfl
    |s k d z r=>cases k<;>first|rfl|cases J) (y:=a.eval (.tmp t)) (fun _=>I.val t _ hD)
   exact⟨P,f,g,l,n,by simp[bE,J]⟩
  ·rename_i ts hD;split at e
   case isFalse =>
    split at e
    case h_2=>cases e
    rename_i h c j Q;obtain⟨u,_,hj,N⟩:=lG Q;have m:Am.aggNode D ts h c j=some (s,D1)→∃P,Inv cx D1 P a.tmps w∧Out cx D1 (ownBl s)∧AOk w (ownBl s) Y s (a.eval (.tmp t))∧(∀b,(ownBl s).count b≤1)∧(bE s).isSome=true:=fun e=>by obtain⟨d,z,rows,_,_,_,P,F,q,G,R,V,_⟩:=I.aggNode hD (by simpa using hj) N p e;exact⟨P,F,q,G,R,V⟩
    split at e
    case h_2=>exact m e
    rename_i b bs hb;split at e
    case isFalse=>exact m e
    rename_i hc;cases e;obtain⟨P,F,q,G,R,V,_⟩:=I.boxAgg hD hb hc.1 hc.2.1 p;exact⟨P,F,q,G,R,by simp only[bE];rw[Ej hc.2.2];rfl⟩
   rename_i A;split at e
   case isFalse=>cases e
   rename_i S;cases e;obtain⟨P,f,g,l,n⟩:=I.takeSlot hD (.inr (.inr ⟨ts,rfl⟩)) p (eo A) (y:=a.eval (.tmp t)) (fun _=>I.val t _ hD);exact⟨P,f,g,l,n,by simp only[bE];rw[Ej S];rfl⟩
  ·cases e
 |_=>cases e
theorem Inv.back {cx:Cx}{D1:DSt}{P:List (DT×Value)}{tm:Array Value}{w w':World}(I:Inv cx D1 P tm w){X bx:List Nat}{Y:Nat→Prop}(j:Out cx D1 X)(g:GrewH X w w'){o:Bool×List DT}{rd:b6}{v:Value}(R:RetOk w X Y w' bx [o] rd v)(c:ff cx ([o]++rd))
  {h i:List (DT×Value)} (d:PendOf h o.2) (e:PendOf i (rd.flatMap (·.2))):Inv cx D1 (h++i) tm w'∧∀b,az (h++i) b=(a6 ([o]++rd)).count b:=by
 have a:∀b,az (h++i) b=(a6 ([o]++rd)).count b:=by intro b;rw[db,d.cnt,e.cnt,gk,ED,jK rd];simp[a6]
 refine⟨I.world j g (fun p hp=>?_) (fun b hb=>?_),a⟩
 ·rcases EI.1 hp with hp|hp
  ·exact R.pend (fun t f=>⟨o,by simp,f⟩) d c p hp
  ·exact R.pend (fun t f=>by obtain⟨r,l,f⟩:=Eq.1 f;exact⟨r,by simp[l],f⟩) e c p hp
 ·rw[a]at hb ⊢;have m:=R.once b;obtain⟨n1,k⟩:=R.new b (Ew.1 hb);rcases n1 with n1|n1
  ·refine⟨by omega,?_,.inl (E7 I.frame.size n1),k⟩;rcases E0 (aO D1 b)with q|q
   ·exact q
   ·have:=(I.bnd b (by omega)).2;omega
  ·exact⟨by omega,(j b n1).2,(j b n1).1,k⟩
theorem Inv.putBack {cx:Cx}{D1:DSt}{P:List (DT×Value)}{tm:Array Value}{w w':World}(F:Inv cx D1 P tm w){X bx:List Nat}{Y:Nat→Prop}(s:Out cx D1 X)(g:GrewH X w w'){o:Bool×List DT}{rd:b6}{v:Value}(R:RetOk w X Y w' bx [o] rd v)(k:ff cx ([o]++rd))
  {t:Nat} (q:t<D1.length) {s':DSl} (hv:VS D1 s' (tm.getD t undef)) (G:af s'=o.2) (d:rootsO s'=o.2) (r:sG w' s') (z:(∃b,s' = .box b o.2∧bx=[b.1]∧b.1∈X∧b.1<w.heap.size)∨(∃u,s' = .one u)∨∃ts,s' = .agg ts)
  (f:∀u∈o.2,∃y,VT u y):∃i,PendOf i (rd.flatMap (·.2))∧Inv cx (aE D1 (some t) s') i tm w':=by
 obtain⟨A,c⟩:=cL f;obtain⟨i,l⟩:=cL R.each;obtain⟨B,hc⟩:=F.back s g R k c l;have C:t<tm.size:=by rw[←F.size];exact q
 have a:MemS w' s':=⟨fun u m=>R.holds o (by simp) u (G ▸ m),fun u m I=>R.own o (by simp) u (d ▸ m) I,r⟩
 have j:∀u∈af s',aS cx D1 u:=fun u m=>(k o (by simp) u (G ▸ m)).at
 refine⟨i,l,?_⟩;rw[←qS (tm:=tm) (t:=t) C];rcases z with⟨b,rfl,D,n,p⟩|⟨u,rfl⟩|⟨ts,rfl⟩
 ·refine Inv.putF (P:=A) (Q:=i) B (fun x=>if x=b.1 then 1 else 0) (fun x r=>?_) q hv a j (fun x=>?_)
  ·split at r
   ·rename_i e;subst e;have H:=R.once b.1;rw[D]at H;simp only[List.count_cons_self]at H;exact⟨by simp,by rw[hc,(s _ n).2];omega,(s _ n).1,EU p g.size⟩
   ·cases r
  ·rw[c.cnt];simp only[ownBl,Fu];by_cases e:x=b.1
   ·subst e;simp
   ·have:(b.1==x)=false:=by simp;exact fun h=>e h.symm
    simp[this,e]
 ·refine Inv.put (P:=A) (Q:=i) B q hv a j (fun x=>?_);rw[c.cnt, ←d];simp[ownBl,rootsO]
 ·refine Inv.put (P:=A) (Q:=i) B q hv a j (fun x=>?_);rw[c.cnt, ←d];exact EQ _
theorem Inv.nodeBack {cx:Cx}{D:DSt}{tm:Array Value}{w w':World}(I:Inv cx D [] tm w){h c:Nat}{st:List (Nat×Nat)}{u:DT}{d:Dec}{z:Nat}{rows:List (List DT)}(Z:am D h c=some u)(n2:u.isOwn=true)
  (n3:getN u st=some (.s .own d z rows)) (H:OwnT w (.s .own d z rows)) (g:GrewH (bl (.s .own d z rows)) w w') {bx:List Nat} {Y:Nat→Prop} {o:Bool×List DT} {rd:b6} {v:Value} (R:RetOk w (bl (.s .own d z rows)) Y w' bx [o] rd v) (K:ff cx ([o]++rd))
  {e:Dec} {a:List (List DT)} (L:(.s .own e z a:DT)∈o.2) (l:Value.slice e.addr a.length e.cap = .slice d.addr rows.length d.cap):
  ∃V A,bU (fS a) (St.dead (bM h c) (gA h c) D) h c st=some V∧PendOf A (rd.flatMap (·.2))∧Inv cx V A tm w':=by
 simp only[Value.slice.injEq]at l;obtain⟨j,v2,v3⟩:=l;have W:=R.holds o (by simp) (.s .own e z a) L;have M:=R.own o (by simp) (.s .own e z a) L rfl;have hd:e=d∨(d.nil=true∧a=[]∧d.sp=none∧d.cap=0):=by
  rw[Dec.addr_sp M.sp,Dec.addr_sp H.sp]at j;cases k:d.nil with
  |true =>
   right;rw[k]at j;have F:e.nil=true:=by
    cases q:e.nil with
    |true=>rfl
    |false=>rw[q]at j;simp at j
   refine⟨rfl,W.nilrows F,H.sp,?_⟩;cases H with
   |nil _ _ _ _ hc=>exact hc
   |s _ _ _ q=>rw[q]at k;cases k
  |false =>
   left;rw[k]at j;cases q:e.nil with
   |true=>rw[q]at j;simp at j
   |false =>rw[q]at j;simp only[EE,E3,EY,Addr.mk.injEq]at j;have s1:=M.sp;have s2:=H.sp;cases d;cases e;simp_all
 have O:Holds w' (.s .own d z a):=by
  rcases hd with rfl|⟨n,rfl,B,J⟩
  ·exact W
  ·exact .e .own d z
 have P:OwnT w' (.s .own d z a):=by
  rcases hd with rfl|⟨n,rfl,B,J⟩
  ·exact M
  ·exact .nil d z n B J
 have G:∀b,(bl (.s .own d z a)).count b≤(bl (.s .own e z a)).count b:=by
  intro b;rcases hd with rfl|⟨n,rfl,B,J⟩
  ·exact EQ _
  ·rw[bR,n];simp
 obtain⟨A,C⟩:=cL R.each;have x:∀b,(bl (.s .own e z a)).count b+az A b≤(a6 ([o]++rd)).count b:=by
  intro b;rw[gk,ED,C.cnt,jK rd];refine Nat.add_le_add ?_ (EQ _);obtain⟨i,hi⟩:=En L;have q:=aV ownR (.any:DT) b o.2 i _ hi;have Q:(ownR (.any:DT)).count b=0:=rfl;have B:ownR (.s .own e z a:DT)=bl (.s .own e z a):=by simp[ownR,T.isOwn]
  rw[B]at q;have J:(a6 [o]).count b=(o.2.flatMap ownR).count b:=by simp[a6]
  omega
 have N:NodeOk w w' (.s .own d z rows) (.s .own d z a):=⟨O,P,fun y hy=>by show y=_;rw[show y=_ from hy,v2],fun b hb S=>g.same b hb S⟩
 obtain⟨D',k1,X⟩:=I.updNode (P':=A) Z n2 n3 (f:=fS a) rfl N (fun _=>rfl) (p:=bM h c) (q:=gA h c) (by simp[bM]) (.inr (.inl ⟨by simp[gA],fun d2 z2 m ⟨X,r2,n,Q⟩=>by
   simp only[getN,EY,T.s.injEq]at n;obtain⟨rfl,rfl,rfl,rfl⟩:=n;exact⟨.own,a,rfl,by omega⟩⟩)) (fun b=>by
   have n:=R.once b;have B:=x b;have Q:=G b;split
   ·rename_i G4;rcases E0 ((bl (.s .own e z a)).count b+az A b)with q|q
    ·omega
    ·have:=R.new b (Ew.1 (by omega));rcases this.1 with q'|q'
     ·omega
     ·have:=Ew.2 q';omega
   ·omega) (fun b hb hp=>by
   have Q:=G b;have B:=x b;exact(R.new b (Ew.1 (by omega))).2) g.size g.os g.tape g.output (R.pend (fun t U=>by
   obtain⟨r,hr,U⟩:=Eq.1 U;exact⟨r,by simp[hr],U⟩) C K)
 exact⟨D',A,k1,C,X⟩
theorem rx {d:Dec}{z:Nat}{rows:List (List DT)}:ownBl (.one (.s .own d z rows):DSl)=bl (.s .own d z rows):=by simp[ownBl,ownR,T.isOwn]
theorem Inv.nodePut {cx:Cx}{D k:DSt}{tm:Array Value}{w w':World}(I:Inv cx D [] tm w){h c:Nat}{d:Dec}{z:Nat}{rows:List (List DT)}(l:am D h c=some (.s .own d z rows))(m:OwnT w (.s .own d z rows))
  (g:GrewH (bl (.s .own d z rows)) w w') {bx:List Nat} {Y:Nat→Prop} {o:Bool×List DT} {rd:b6} {v:Value} (R:RetOk w (bl (.s .own d z rows)) Y w' bx [o] rd v) (b:ff cx ([o]++rd)) {u:DT} (n:u∈o.2) (hv:VT u (.slice d.addr rows.length d.cap))
  (e:Am.nodePut D h c u=some k):∃a,PendOf a (rd.flatMap (·.2))∧Inv cx k a tm w':=by
 unfold Am.nodePut at e;rw[l]at e;split at e
 case h_2=>cases e
 rename_i s t x f y A i j;cases j;split at e
 case isFalse=>cases e
 rename_i hz;subst hz;obtain⟨B,a,p,q,r⟩:=I.nodeBack (st:=[]) l rfl rfl m g R b n hv.symm;rw[p]at e;cases e;exact⟨a,q,r⟩
theorem Inv.boxBack {cx:Cx}{D D1:DSt}{P:List (DT×Value)}{tm:Array Value}{w w':World}(I:Inv cx D [] tm w){h:Nat}{b:Nat×Nat}{m:List DT}(hb:D[h]?=some (.box b m))(hl:m.all T.noLent=true)(I1:Inv cx (aB h D) P tm w){X bx:List Nat}{Y:Nat→Prop}
  (hX:Out cx (aB h D) X) (G4:Out cx (aB h D) (ownBl (.box b m))) (L:b.1∉X) (C:b.1<w.heap.size) (g:GrewH X w w') {o:Bool×List DT} {rd:b6} {v:Value} (R:RetOk w X Y w' bx [o] rd v) (M:ff cx ([o]++rd))
  {cs:Array Value} (ho:VCells o.2 cs.toList) (N:∀(i:Nat)(x:DT)(y:Value),m[i]?=some x→x.isOwn=true→cs.toList[i]?=some y→VT x y):
  ∃O,PendOf O (rd.flatMap (·.2))∧Inv cx (aE (aB h D) (some h) (.box b (eA m o.2))) O tm w':=by
 obtain⟨Po,S⟩:=cL ho.each;obtain⟨O,U⟩:=cL R.each;obtain⟨I2,hc⟩:=I1.back hX g R M S U;have F:=Ef hb;have hm:=I.mem _ F;have G:=I.kind _ F;have ht:h<(aB h D).length:=by rw[fj];exact bX hb
 have G5:h<tm.size:=by rw[←I1.size];exact ht
 have same:w'.heap[b.1]?=w.heap[b.1]?:=g.same b.1 C L;have n:∀x∈eA m o.2,(x∈o.2)∨(x∈m∧x.isOwn=false):=by
  intro x H;obtain⟨i,hi⟩:=En H;obtain⟨t',u',q1,q2,B⟩:=pr hi;cases l:t'.isOwn with
  |true=>rw[l,Ej rfl]at B;subst B;exact .inl (Ef q2)
  |false=>rw[l,Eu E5]at B;subst B;exact .inr ⟨Ef q1,l⟩
 have p:∀x∈m,x.isOwn=false→∀y∈bl x,(Cx.mk w X noY).far y:=by
  intro x H G6 y K;rcases pW (eo hl x H)with q|q|⟨d,z,r,rfl⟩
  ·rw[G6]at q;cases q
  ·rw[q]at K;cases K
  ·exact I1.farX hX (G _ H y K)
 obtain⟨c,e,f,l1,l2⟩:=hm.2.2.1;refine⟨O,U,?_⟩;rw[←qS (tm:=tm) (t:=h) G5];refine Inv.putF (P:=Po) (Q:=O) I2 (fun x=>if x=b.1 then 1 else 0) (fun x H=>?_) ht (I.val h _ hb) ⟨fun u V=>?_,fun u V J=>?_,⟨⟨c,e,f,by rw[same];exact l1,fun j u hj=>?_⟩,fun c' e' lo G7 W y h1 h2=>?_⟩⟩ (fun u V=>?_) (fun x=>?_)
 ·split at H
  ·rename_i A;subst A;have q0:=G4 b.1 (by simp[ownBl]);refine⟨by simp,?_,q0.1,EU C g.size⟩;rw[hc,q0.2];rcases E0 ((a6 ([o]++rd)).count b.1)with q|q
   ·omega
   ·have:=(R.new b.1 (Ew.1 q)).1;rcases this with q'|q'
    ·omega
    ·exact absurd q' L
  ·cases H
 ·rcases n u V with q|⟨q,q2⟩
  ·exact R.holds o (by simp) u q
  ·exact(hm.1 u q).frame fun y K _=>g.same y (p u q q2 y K).1.1 (p u q q2 y K).1.2
 ·rcases n u V with q|⟨q,q2⟩
  ·exact R.own o (by simp) u q J
  ·rw[q2]at J;cases J
 ·obtain⟨t',u',q1,q2,B⟩:=pr hj;obtain⟨y,y1,y2⟩:=l2 j t' q1;refine⟨y,y1,?_⟩;cases l:t'.isOwn with
  |false=>rw[l,Eu E5]at B;subst B;exact y2
  |true =>
   rw[l,Ej rfl]at B;subst B;have G8:j<cs.toList.length:=by rw[←ho.1];exact bX q2
   have Z:=El G8;have v1:=N j t' _ q1 l Z;have v2:=ho.2 j _ _ q2 Z;cases t' with
   |v x=>cases l
   |any=>cases l
   |s k d z r =>have e1:cs.toList[j]= .slice d.addr r.length d.cap:=v1;have e2:y = .slice d.addr r.length d.cap:=y2;rw[e2, ←e1];exact v2
 ·rw[same]at W;have G9:(eA m o.2).length≤m.length:=by
   have:∀(a b:List DT),(eA a b).length≤a.length:=by
    intro a;induction a with
    |nil=>intro b;cases b<;>simp[eA]
    |cons x a ih=>intro b;cases b with
     |nil=>simp[eA]
     |cons y b=>simp only[eA,FZ];have:=ih b;omega
   exact this m o.2
  exact hm.2.2.2 c' e' lo G7 W y h1 (by omega)
 ·rcases n u V with q|⟨q,q2⟩
  ·exact(M o (by simp) u q).at
  ·rcases pW (eo hl u q)with q'|q'|⟨d,z,r,rfl⟩
   ·rw[q2]at q';cases q'
   ·cases u with
    |v x=>trivial
    |any=>trivial
    |s k d z r=>cases k<;>first|(cases q2;done)|exact G _ q|(have:=eo hl _ q;cases this)
   ·exact G _ q
 ·have q:=tT (ts:=m) (us:=o.2) x;rw[S.cnt];simp only[ownBl,Fu];by_cases A:x=b.1
  ·subst A;simp;omega
  ·have:(b.1==x)=false:=by simp;exact fun h=>A h.symm
   simp[this,A];omega
theorem Inv.homePut0 {cx:Cx}{D:DSt}{a:Act}{w w':World}(I:Inv cx D [] a.tmps w){x:Operand}{s:DSl}{D1 D2:DSt}(e:Am.homeTake D x=some (s,D1))(g:GrewH (ownBl s) w w'){o:Bool×List DT}{rd:b6}{v:Value}
  {Y:Nat→Prop} (R:RetOk w (ownBl s) Y w' (cM s) [o] rd v) (m:ff cx ([o]++rd)) (C:pD w' s (a.eval x) o) (i:Am.homePut0 D D1 x o=some D2):∃H,PendOf H (rd.flatMap (·.2))∧Inv cx D2 H a.tmps w':=by
 obtain⟨P,h1,h2,h3,h4,h5⟩:=I.homeTake (Y:=noY) (fun _ _=>id) e;have n:∀{b:Nat×Nat}{us:List DT},Lies w' b us→∀u∈us,∃y,VT u y:=by rintro b us ⟨c,e,f,U,J⟩ u hu;obtain⟨j,V⟩:=En hu;obtain⟨y,_,hy⟩:=J j u V;exact⟨y,hy⟩
 cases x with
 |tmp t =>
  simp only[Am.homeTake]at e;split at e
  ·rename_i b ts hD;split at e
   case isFalse=>cases e
   cases e;simp only[Am.homePut0,hD]at i;cases i;obtain⟨k,p,o3⟩:=C;have hb:=(h3.own b.1 (by simp[ownBl])).2;exact h1.putBack h2 g R m (by rw[fj];exact bX hD) (s' := .box b o.2) (I.val t _ hD) rfl rfl ⟨p,o3⟩ (.inl ⟨b,rfl,rfl,by simp[ownBl],hb⟩) (n p)
  ·rename_i h off hD;split at e
   case isFalse=>cases e
   split at e
   case h_2=>cases e
   rename_i b ts hb;split at e
   case isFalse=>cases e
   cases e;simp only[Am.homePut0,hD,hb]at i;cases i;obtain⟨k,p,o3⟩:=C;have G7:=(h3.own b.1 (by simp[ownBl])).2;exact h1.putBack h2 g R m (by rw[fj];exact bX hb) (s' := .box b o.2) (I.val h _ hb) rfl rfl ⟨p,o3⟩ (.inl ⟨b,rfl,rfl,by simp[ownBl],G7⟩) (n p)
  ·rename_i h c st lo len hD;split at e
   case h_2=>cases e
   rename_i d z rows hn;split at e
   case isFalse=>cases e
   rename_i hc;obtain⟨rfl,rfl⟩:=hc;rw[Ei]at e;obtain⟨D3,H1,e⟩:=e;cases e;simp only[Am.homePut0,hD,hn]at i;split at i
   case h_2=>cases i
   rename_i k0 d0 z0 K d' z' L G8 l;cases G8;split at i
   case isFalse=>cases i
   rename_i hz;subst hz;obtain⟨u,n1,n2,n3,n4,n5,n6⟩:=I.alNode hD hn;obtain⟨k,p⟩:=C;unfold VPart at k;rw[p,l]at k;simp only[EE,E3]at k;obtain⟨t',r,A⟩:=k;cases r;have W:Value.slice d'.addr L.length d'.cap = .slice d.addr rows.length d.cap:=by have U:a.eval (.tmp t)=_:=A;have J:a.tmps.getD t undef=_:=n6;exact U.symm.trans J
   rw[rx]at g R;obtain⟨D4,H,k1,k2,k3⟩:=I.nodeBack n1 n2 n3 n5 g R m (by rw[l];simp) W;rw[k1]at i;cases i;exact⟨H,k2,k3⟩
  ·rename_i u hD;split at e
   case isFalse M =>
    split at e
    case h_2=>cases e
    rename_i h c hr;split at e
    case h_2=>cases e
    rename_i d z rows hc;rw[Ei]at e;obtain⟨D',e1,e3⟩:=e;cases e3;obtain⟨P',U,J,q3,q4,q5,X⟩:=I.nodeTake hc e1;obtain⟨d0,z0,K,g1,g2⟩:=Inv.root hr (I.kind _ (Ef hD) u (by simp[af])) (I.val t _ hD);rw[hc]at g1;cases g1;simp only[Am.homePut0,hD]at i;split at i
    case h_2=>cases i
    rename_i d1 z1 N l;rw[Eu M,hr]at i;obtain⟨k,p⟩:=C;unfold VPart at k;rw[p,l]at k;simp only[EE,E3]at k;obtain⟨t',r,A⟩:=k;cases r;rw[rx]at g R;have O:VT (.s .own d1 z1 N:DT) (.slice d.addr rows.length d.cap):=by have:a.eval (.tmp t)= .slice d.addr rows.length d.cap:=g2;rw[←this];exact A
    exact I.nodePut hc X g R m (by rw[l];simp) O i
   rename_i Z;cases e;simp only[Am.homePut0,hD]at i;split at i
   case h_2=>cases i
   rename_i d z rows l;rw[Ej Z]at i;cases i;obtain⟨k,p⟩:=C;have q:=k.each;unfold VPart at k;rw[p,l]at k;simp only[EE,E3]at k;obtain⟨t',r,A⟩:=k;cases r;exact h1.putBack h2 g R m (by rw[fj];exact bX hD) (s' := .one (.s .own d z rows)) A l.symm l.symm trivial (.inr (.inl ⟨_,rfl⟩)) q
  ·rename_i ts hD;split at e
   case isFalse M =>
    split at e
    case h_2=>cases e
    rename_i h c j G4;obtain⟨u,_,V,hr⟩:=lG G4;rw[Nat.sub_zero]at V;simp only[Am.homePut0,hD]at i;rw[Eu M,G4]at i;simp only at i;have F:Am.aggNode D ts h c j=some (s,D1)→(o.2[j]?).bind (Am.nodePut D h c)=some D2→∃H,PendOf H (rd.flatMap (·.2))∧Inv cx D2 H a.tmps w':=fun e i=>by
     obtain⟨d,z,rows,g1,g2,g3,P',U,J,q3,q4,q5,X⟩:=I.aggNode hD V hr (Y:=noY) (fun _ _=>id) e;subst g2;rw[g3]at g R;obtain⟨k,p⟩:=C;unfold VPart at k;rw[p]at k;simp only[EV]at k;obtain⟨cs,Q,B⟩:=k;rw[Eh]at i;obtain⟨v',hv1,O⟩:=i;have G5:j<cs.toList.length:=by rw[←B.1];exact bX hv1
     obtain⟨S,G,G6⟩:=q3.val D;have G9:S=cs:=by rw[Q]at G;cases G;rfl
     subst G9;have k1:=B.2 j v' _ hv1 (El G5);have k2:VT (.s .own d z rows:DT) S.toList[j]:=G6.2 j _ _ (by rw[Ep (bX V)]) (El G5);have k3:S.toList[j]= .slice d.addr rows.length d.cap:=k2;rw[k3]at k1;exact I.nodePut g1 X g R m (Ef hv1) k1 O
    split at e
    case h_2 H0 =>
     split at i
     ·rename_i b bs hb;exact absurd hb (H0 b bs)
     ·exact F e i
    rename_i b bs hb;rw[hb]at i;simp only at i;split at e
    case isFalse hc =>rw[Eu hc]at i;exact F e i
    rename_i hc;rw[Ej hc]at i;cases e;cases i;obtain⟨P',U,J,q3,q4,⟨q5,X,q7⟩,q8⟩:=I.boxAgg hD hb hc.1 hc.2.1 (Y:=noY) (fun _ _=>id);obtain⟨k,p⟩:=C;unfold VPart at k;rw[p]at k;simp only[EV]at k;obtain⟨cs,Q,B⟩:=k;exact I.boxBack (D1:=aB h D) hb hc.2.1 U J q5 X q7 g R m B (q8 cs Q)
   rename_i hl;split at e
   case isFalse=>cases e
   cases e;simp only[Am.homePut0,hD]at i;rw[Ej hl]at i;cases i;obtain⟨k,p⟩:=C;have q:=k.each;unfold VPart at k;rw[p]at k;exact h1.putBack h2 g R m (by rw[fj];exact bX hD) (s' := .agg o.2) k rfl rfl trivial (.inr (.inr ⟨_,rfl⟩)) q
  ·cases e
 |_=>cases e
section
variable  {δ β : Type}
def pZ (o:Bool×List (T δ)):Bool:=match o with|(false,[.any])=>true|_=>false
def homePut (D D1:St δ β)(x:Operand)(o:Bool×List (T δ)):Option (St δ β):=if pZ o=true then some D1 else homePut0 D D1 x o
end
theorem zb (o:Bool×List DT):pZ (o.1,erL o.2)=pZ o:=by
 obtain⟨g,ts⟩:=o;cases g with
 |true=>rfl
 |false =>
  match ts with
  |[]=>rfl
  |[t]=>cases t<;>first|rfl|(simp only[erL,EB,E6,aq];rfl)
  |t::u::ts=>cases t<;>first|rfl|(simp only[erL,EB,aq];rfl)
theorem wJ (D D1:DSt)(x:Operand)(o:Bool×List DT):homePut (erD D) (erD D1) x (o.1,erL o.2)=(homePut D D1 x o).map erD:=by unfold homePut;rw[zb,uT];split<;>rfl
theorem Inv.dropL {cx:Cx}{D:DSt}{P Q:List (DT×Value)}{tm:Array Value}{w:World}(I:Inv cx D (P++Q) tm w):Inv cx D Q tm w where
 size:=I.size
 val:=I.val
 mem:=I.mem
 kind:=I.kind
 pend:=fun p a=>I.pend p (by simp[a])
 once:=fun b=>by have:=I.once b;rw[db]at this;omega
 bnd:=fun b hb=>I.bnd b (by rw[db];omega)
 frame:=I.frame
theorem Inv.homePut {cx:Cx}{D:DSt}{a:Act}{w w':World}(I:Inv cx D [] a.tmps w){x:Operand}{s:DSl}{D1 k:DSt}(e:Am.homeTake D x=some (s,D1))(g:GrewH (ownBl s) w w'){o:Bool×List DT}{rd:b6}{v:Value}
  {Y:Nat→Prop} (R:RetOk w (ownBl s) Y w' (cM s) [o] rd v) (c:ff cx ([o]++rd)) (m:pD w' s (a.eval x) o) (f:Am.homePut D D1 x o=some k):∃h,PendOf h (rd.flatMap (·.2))∧Inv cx k h a.tmps w':=by
 unfold Am.homePut at f;split at f
 ·rename_i i;cases f;obtain⟨P,n,p,q,r,t⟩:=I.homeTake (Y:=noY) (fun _ _=>id) e;have b:∀u∈o.2,∃y,VT u y:=by
   unfold pZ at i;split at i
   ·intro u l;rw[Er]at l;subst l;exact⟨.bool true,rfl⟩
   ·cases i
  obtain⟨z,j⟩:=cL b;obtain⟨h,d⟩:=cL R.each;exact⟨h,d,(n.back p g R c j d).1.dropL⟩
 ·exact I.homePut0 e g R c m f
section
variable  {δ β : Type}
def lb (D:St δ β)(x:Operand):Option Nat :=
 match x with
 | .tmp t=>match D[t]? with
  |some (.box _ _)=>some t
  |some (.pb h _)=>some h
  |_=>none
 |_=>none
def ld (h:Nat)(D a:St δ β)(t:Nat):St δ β :=
 match D[t]?,a[t]?,a[h]? with
 |some (.pb b o),some .any,some (.box _ _)=>if b=h∧t≠h then a.set t (.pb h o)else a
 |_,_,_=>a
def repP (D:St δ β)(x:Operand)(a:St δ β):St δ β :=
 match lb D x with
 |some h=>(List.range D.length).foldl (ld h D) a
 |none=>a
theorem yh {t:Nat}{D:St δ β}(h:t<D.length):(aB t D)[t]?=some .any:=by unfold aB;rw[Ep (by simpa[St.dead]using h)]
theorem u6 {D D1 i:St δ β}{x:Operand}{s:Sl δ β}{o:Bool×List (T δ)}(e:homeTake D x=some (s,D1))(a:homePut D D1 x o=some i){h:Nat}(hh:lb D x=some h){b j:β}{ts k:List (T δ)}
  (d:D[h]?=some (.box b ts)) (c:i[h]?=some (.box j k)):j=b:=by
 have f:h<D.length:=bX d;have g:∀{l:β},D1=aB h D→l=b→i=aE D1 (some h) (.box l o.2)→j=b:=fun {l} m n p=>by subst n;rw[p,m]at c;simp only[aE]at c;rw[Ep (by rw[fj,fj];exact f)]at c;simp only[Sl.clean,Sl.dead,Sl.gone,EY,Sl.box.injEq]at c;exact c.1.symm
 have gone:D1=aB h D→i=D1→j=b:=fun m n=>by rw[n,m,yh f]at c;cases c
 unfold lb at hh;split at hh
 case h_2=>cases hh
 rename_i t;unfold homePut at a;simp only[homeTake]at e;split at hh
 ·rename_i r q hb;cases hh;rw[hb]at d;cases d;rw[hb]at e;simp only at e;split at e
  case isFalse=>cases e
  cases e;split at a
  ·cases a;exact gone rfl rfl
  ·simp only[homePut0,hb]at a;cases a;exact g rfl rfl rfl
 ·rename_i u v hb;cases hh;rw[hb]at e;simp only[d]at e;split at e
  case isFalse=>cases e
  split at e
  case isFalse=>cases e
  cases e;split at a
  ·cases a;exact gone rfl rfl
  ·simp only[homePut0,hb,d]at a;cases a;exact g rfl rfl rfl
 ·cases hh
end
theorem Inv.repb {cx:Cx}{D:DSt}{tm:Array Value}{w w':World}(I:Inv cx D [] tm w){k:List (DT×Value)}{h:Nat}:∀(l:List Nat){f:DSt},Inv cx f k tm w'→(∀b ts g a,D[h]?=some (.box b ts)→f[h]?=some (.box g a)→g=b) →
  Inv cx (l.foldl (ld h D) f) k tm w'
 |[],f,c,_=>c
 |t::l,f,c,hb=>by
  rw[Fg];unfold ld;split
  ·rename_i x o g a z d hh;split
   ·rename_i hc;obtain⟨rfl,i⟩:=hc;obtain⟨b,ts,A,B⟩:=I.val t _ z;have m:=hb b ts g a A hh;subst m;have n:t<f.length:=bX d;have r:=Inv.fill (P:=[]) (Q:=k) (by simpa using c) d (s := .pb x o) (y:=tm.getD t undef) (fun s' j=>by obtain⟨u,e⟩:=En j;exact c.any_refs d (c.val u s' e) (c.kind s' j)) (fun q=>i q.symm) ⟨g,a,hh,B⟩ ⟨fun u e=>by simp[af]at e,fun u e=>by simp[rootsO]at e,trivial⟩ (fun u e=>by simp[af]at e) (fun b=>by simp[ownBl]);rw[qS (by rw[←c.size];exact n)]at r;refine Inv.repb I l r fun C ts' F p G v=>?_
    rw[Es i]at v;exact hb C ts' F p G v
   ·exact Inv.repb I l c hb
  ·exact Inv.repb I l c hb
theorem Inv.repP {cx:Cx}{D:DSt}{tm:Array Value}{w w':World}(I:Inv cx D [] tm w){d:List (DT×Value)}{x:Operand}{a:DSt}(e:Inv cx a d tm w')
  (hb:∀h,lb D x=some h→∀b ts f c,D[h]?=some (.box b ts)→a[h]?=some (.box f c)→f=b):Inv cx (repP D x a) d tm w':=by
 unfold Am.repP;split
 ·rename_i h hh;exact Inv.repb I _ e (hb h hh)
 ·exact e
theorem zd (D:DSt)(x:Operand):lb (erD D) x=lb D x:=by
 unfold lb;cases x with
 |tmp t =>
  simp only[a8];cases D[t]? with
  |none=>rfl
  |some s=>cases s<;>rfl
 |_=>rfl
theorem zk (h:Nat)(D a:DSt)(t:Nat):ld h (erD D) (erD a) t=erD (ld h D a t):=by
 unfold ld;simp only[a8];cases f:D[t]? with
 |none=>rfl
 |some s =>
  cases s with
  |pb g o =>
   simp only[Ee,Sl.er];cases c:a[t]? with
   |none=>rfl
   |some d =>
    cases d with
    |any =>
     simp only[Ee,Sl.er];cases hh:a[h]? with
     |none=>rfl
     |some e =>
      cases e with
      |box b ts =>
       simp only[Ee,Sl.er];split
       ·rw[cN];rfl
       ·rfl
      |_=>rfl
    |_=>rfl
  |_=>rfl
theorem z6 (D:DSt)(x:Operand)(a:DSt):repP (erD D) x (erD a)=erD (repP D x a):=by
 have hf:∀(l:List Nat)(h:Nat)(a:DSt),l.foldl (ld h (erD D)) (erD a)=erD (l.foldl (ld h D) a):=by
  intro l h;induction l with
  |nil=>intro a;rfl
  |cons t l b=>intro a;rw[Fg,Fg,zk,b]
 unfold repP;rw[zd,ch];cases lb D x with
 |none=>rfl
 |some h=>exact hf _ h a
abbrev US:=St Unit Unit
def dA (P : Program) (fns : FuncId → Option Func) : Prop := ∀ f fn, fns f = some fn → P.funcs[f]? = some fn ∧ (fn.name == "runtime.NumGoroutine") = false ∧ fn.body.isNone = false
def callTo (D:US)(o:Oper):Option (FuncId×List Operand×List (Unit×List (T Unit))):=
 match o.op with
 | .call c=>match c.callee with| .value x=>(match opd mkU.nil D x with|some (.fni f caps)=>some (f,c.args.toList,caps)|_=>none)|_=>none
 |_=>none
theorem Inv.callTo {cx:Cx}{D:DSt}{a:Act}{w:World}(I:Inv cx D [] a.tmps w){o:Oper}{f:FuncId}{xs:List Operand}{caps:List (Unit×List (T Unit))}(h:callTo (erD D) o=some (f,xs,caps)):
  ∃c x d,o.op = .call c∧c.callee = .value x∧xs=c.args.toList∧caps=d.map (fun p=>((),erL p.2))∧AOk w [] noY (.fni f d) (a.eval x) ∧
   a.eval x = .func (.func f) #[] (d.map fun b=>Value.pointer (some ⟨b.1.1,b.1.2,none⟩)).toArray:=by
 unfold Am.callTo at h;split at h
 case h_2=>cases h
 rename_i c j;split at h
 case h_2=>cases h
 rename_i x e;split at h
 case h_2=>cases h
 rename_i f' l n;cases h;rw[bn,Ei]at n;obtain⟨s,q,g⟩:=n;have hv:=(I.opd q).val;cases s with
 |fni i d =>
  simp only[Sl.er,Sl.fni.injEq]at g;obtain⟨rfl,rfl⟩:=g;refine⟨c,x,d,j,e,rfl,rfl,?_,hv⟩;have:Am.argOf mkD D x=some (Sl.fni i d):=by have m:Am.opd mkD.nil D x=some (Sl.fni i d):=q;simp only[Am.argOf,m]
  exact(I.argOf (Out.nil cx D) this).1
 |one u=>cases g
 |im k b ts off=>cases g
 |_=>cases g
theorem ArgsOk.ims {w:World}{X:List Nat}{Y:Nat→Prop}{ad:List DSl}{c:List Value}(h:ArgsOk w X Y ad c){f:FuncId}{caps:List ((Nat×Nat)×List DT)}{y:Value}(g:AOk w X Y (.fni f caps) y):
  ArgsOk w X Y (ad++Am.ims caps) (c++caps.map fun b=>Value.pointer (some ⟨b.1.1,b.1.2,none⟩)):=by
 obtain⟨d,e,j⟩:=h;refine⟨by simp[d,Am.ims],fun i a v hi hv=>?_,fun b=>by rw[Fm,yn,EH];exact j b⟩;rcases Em i ad.length with q|q
 ·rw[EZ q]at hi;rw[EZ (by omega)]at hv;exact e i a v hi hv
 ·rw[EX q]at hi;rw[EX (by omega), ←d]at hv;exact g.ims _ a v hi hv
theorem tJ {caps:List ((Nat×Nat)×List DT)}:∀a∈Am.ims caps,a.isHome=false:=by intro a b;obtain⟨p,_,rfl⟩:=Ex.1 b;rfl
def addrSl (D:US)(dst:Option Nat)(offs:List Nat)(xs:List Operand)(caps:List (Unit×List (T Unit))):Option US :=
 match xs,caps with
 |[x],[]=>(fH D x).bind fun h=>ck D dst (.clo (.arr offs) (offs.map fun _=>h))
 |_,_=>none
theorem zj (D:DSt)(dst:Option Nat)(s:DSl):ck (erD D) dst s.er=(ck D dst s).map erD:=iy D dst s
theorem rI {α β:Type}(x:α):∀(l:List β),((l.map fun _=>x).zip l)=l.map fun o=>(x,o)
 |[]=>rfl
 |o::l=>by simp[rI x l]
theorem Inv.addrSl {P:Program}{tab:Tab}(ok:aK P tab){cx:Cx}{D:DSt}{a:Act}{w:World}(I:Inv cx D [] a.tmps w){f:FuncId}{offs:List Nat}(hf:tab.addr.lookup f=some offs){dst:Option Nat}{xs:List Operand}
  {U:US} (e:addrSl (erD D) dst offs xs []=some U):Calls P f (xs.map a.eval).toArray w fun e w'=>∃v,e = .returned v∧∃D',erD D'=U∧Inv cx D' [] (a.put dst v).tmps w':=by
 unfold Am.addrSl at e;split at e
 case h_2=>cases e
 rename_i x _;rw[mu,Eh]at e;obtain⟨h,c,n⟩:=e;have j:∃(b:Nat×Nat) (ts:List DT),D[h]?=some (.box b ts)∧a.eval x = .pointer (some ⟨b.1,b.2,none⟩):=by
  unfold fH at c;split at c
  ·rename_i t;split at c
   ·rename_i b ts hb;cases c;exact⟨b,ts,hb,I.val _ _ hb⟩
   ·rename_i q hb;cases c;obtain⟨b,ts,r,s⟩:=I.val _ _ hb;exact⟨b,ts,r,s⟩
   ·cases c
  ·cases c
 obtain⟨b,ts,y,z⟩:=j;have A:=ok.addr _ (dZ hf) b w;simp only[EB,E6,z];refine A.mono ?_;rintro e w' ⟨rfl,g⟩;refine⟨_,rfl,?_⟩;have m:Inv cx D [] a.tmps w':=I.world (P':=[]) (Out.nil cx D) (g.x []) (fun p B=>by cases B) (fun b hb=>by rw[bw]at hb;cases hb);have C:Tells cx D w' (.clo (.arr offs) (offs.map fun _=>h)) (.agg (offs.map fun o=>Value.pointer (some ⟨b.1,b.2+o,none⟩)).toArray):=by
  refine⟨⟨offs.map fun _=>b,by simp,fun i q F hi hb=>?_,?_⟩,⟨fun u k=>by simp[af]at k,fun u k=>by simp[rootsO]at k,trivial⟩,fun u k=>by simp[af]at k,rfl⟩
  ·rw[Et,Ei]at hi hb;obtain⟨_,_,rfl⟩:=hi;obtain⟨_,_,rfl⟩:=hb;exact⟨ts,y⟩
  ·simp only[sR,rI,ES];rfl
 have l:ck (erD D) dst (Sl.er (.clo (.arr offs) (offs.map fun _=>h)))=some U:=n;rw[zj,Ei]at l;obtain⟨D',d,rfl⟩:=l;refine⟨D',rfl,?_⟩;unfold ck at d;split at d
 ·cases d;exact m
 ·split at d
  ·cases d;exact m.putA ‹_› C
  ·cases d
def lF (a:Bool)(rs:URes):Bool:=a ||rs.all fun r=>r.2.all T.fine
theorem pN {rd:b6}(h:((erR rd).all fun r=>r.2.all T.fine)=true)(cx:Cx):ff cx rd:=fun r b t c=>by have a:=Eo.1 h (r.1,erL r.2) (Ex.2 ⟨r,b,rfl⟩);rw[show(erL r.2).all T.fine=r.2.all T.fine from cg T.fine T.fine lQ r.2]at a;exact KindR.fine (Eo.1 a t c)
theorem Inv.mode {cx:Cx}{D:DSt}{P:List (DT×Value)}{a:Act}{w:World}(I:Inv cx D P a.tmps w){X:List Nat}(g:Out cx D X){xs:List Operand}{c:Bool}(d:c=true→xs.all (opdFar mkD D)=true){rs:URes}(h:lF c rs=true):
  ∃Y:Nat→Prop,(Y=noY∨c=true)∧(∀b,cx.far b→¬Y b)∧(∀x∈xs,∀s,Am.argOf mkD D x=some s→AOk w X Y s (a.eval x)∧s.isHome=false) ∧
   ∀{w':World}{bx:List Nat}{od rd:b6}{v:Value},RetOk w X Y w' bx od rd v→erR (od++rd)=rs→ff cx (od++rd):=by
 by_cases q:(rs.all fun r=>r.2.all T.fine)=true
 ·exact⟨noY,.inl rfl,fun _ _=>id,fun x _ s e=>I.argOf g e,fun _ e=>pN (by rw[e];exact q) cx⟩
 ·have hf:c=true:=by unfold lF at h;rw[F3]at h;exact h.resolve_right q
  refine⟨fun b=>¬cx.far b,.inr hf,fun b hb q=>q hb,fun x f s e=>I.argOfF g (fun b hb q=>q hb) (Eo.1 (d hf) x f) e,fun R _ r i t j=>?_⟩;exact(R.kind r i t j).imp id fun⟨k,l⟩=>⟨k,fun x f=>EK fun q=>(l x f).2 q⟩
theorem AOk.caps {w:World}{X:List Nat}{Y:Nat→Prop}{f:FuncId}{caps:List ((Nat×Nat)×List DT)}{y:Value}(h:AOk w X noY (.fni f caps) y)(a:Y=noY∨caps=[]):AOk w X Y (.fni f caps) y:=by
 rcases a with rfl|rfl
 ·exact h
 ·exact⟨h.val,h.mem,(fun D p b=>by cases b),h.own⟩
def stepU (tab:Tab)(fns:FuncId→Option Func)(C:Sem1)(D:US)(o:Oper)(tk:Bool):Option US :=
 match callTo D o with
 |some (f,xs,caps)=>
  if(fns f).isSome then
   match tab.addr.lookup f with
   |some offs=>addrSl D o.dst offs xs caps
   |none =>
   match tab.io.lookup f with
   |none=>(argsW mkU tab f D xs).bind fun as=>(C f (as++ims caps)).bind fun rs=>if lF (caps.isEmpty&&xs.all (opdFar mkU D)) rs=true then putRet mkU D o.dst rs else none
   |some i =>
    match caps,xs[i]? with
    |[],some x=>(homeTake D x).bind fun r=>(argsIo mkU r.2 r.1 i xs).bind fun as=>(C f as).bind fun rs=>if lF ((xs.eraseIdx i).all (opdFar mkU r.2)) rs=true then match rs with|q::rs=>(homePut D r.2 x q).bind fun a=>putRet mkU (repP D x a) o.dst rs|[]=>none else none
    |_,_=>none
  else none
 |none=>bQ mkU frU tab D o tk
theorem rA {P:Program}{o:Oper}{c:Call}{x:Operand}{f:FuncId}{fn:Func}{a:Act}{w:World}{d:List Value}(e:o.op = .call c)(b:c.callee = .value x)(g:a.eval x = .func (.func f) #[] d.toArray)
  (l : P.funcs[f]? = some fn) (m : (fn.name == "runtime.NumGoroutine") = false) (k : fn.body.isNone = false) : (execOp a.eval o).run P w = .ok (.enter f (c.args.toList.map a.eval ++ d).toArray) w := by
 have n:(c.args.toList.map a.eval++d).toArray=c.args.map a.eval++d.toArray:=by rw[←Fv];simp
 rw[n];simp only[execOp,e,resolve,b,g];have i : ¬ fn.name = "runtime.NumGoroutine" := by simpa using m
 have j:¬fn.body=none:=by intro h;rw[h]at k;cases k
 simp[Deferred.ofValue,invoke,callFunc,l,i,j]
theorem qC {rd:b6}:erR ([]++rd)=erR rd:=rfl
theorem Inv.stepU {P:Program}{tab:Tab}(ok:aK P tab){fns:FuncId→Option Func}(hf:dA P fns){B:Base}{C:Sem1}{cx:Cx}(L:da P B C cx){D:DSt}{a:Act}{w:World}(I:Inv cx D [] a.tmps w)
  {o:Oper} {tk:Bool} {U:US} (e:stepU tab fns C (erD D) o tk=some U) {K:Act→World→Prop} {Q:Exit→Act→World→Prop}
  (z:∀D' M w',erD D'=U→(∃y,M=a.put o.dst y)→Inv cx D' [] M.tmps w'→K M w'):o.wp P a w K Q:=by
 unfold Am.stepU at e;split at e
 ·rename_i f xs caps hc;split at e
  case isFalse=>cases e
  rename_i N;obtain⟨fn,O⟩:=F1.1 N;obtain⟨p1,p2,p3⟩:=hf f fn O;obtain⟨c,x,d,S,A,rfl,rfl,V,W⟩:=I.callTo hc;have X:=rA (w:=w) S A W p1 p2 p3;unfold Oper.wp;rw[X];split at e
  ·rename_i offs u;have j:d=[]:=by
    unfold Am.addrSl at e;split at e
    ·rename_i Z;simpa using Z
    ·cases e
   subst j;have m:=I.addrSl ok u e;simp only[E6,EH];refine m.mono ?_;rintro e0 w' ⟨v,rfl,D',n,p⟩;exact z D' _ _ n ⟨_,rfl⟩ p
  split at e
  ·rw[Eh]at e;obtain⟨as,m,e⟩:=e;rw[Eh]at e;obtain⟨rs,n,p⟩:=e;split at p
   case isFalse=>cases p
   rename_i hB;rw[sV]at m;obtain⟨ad,l,rfl⟩:=Ei.1 m;obtain⟨Y,m1,m2,m3,m4⟩:=I.mode (xs:=c.args.toList) (Out.nil cx D) (fun q=>by rw[EF]at q;rw[←q.2];congr 1;funext y;exact(ri D y).symm) hB;obtain⟨hA,hN⟩:=Inv.argsW m3 l;have G4:=hA.ims (V.caps (m1.imp id fun q=>by rw[EF]at q;simpa using q.1));have G5:∀s∈ad++ims d,s.isHome=false:=fun s hs=>(EI.1 hs).elim (hN s) (tJ s)
   have k:=L.1 f _ rs n w [] Y (ad++ims d) _ (L.2.at I (Out.nil cx D)) (by rw[FH,xT]) G4;refine k.mono ?_;rintro e w' ⟨v,od,rd,rfl,g,F,hO,R⟩;have:=OutsOk.none G5 hO;subst this;subst F;rw[qC,rj]at p;obtain⟨D',G6,rfl⟩:=Ei.1 p;exact z D' _ _ rfl ⟨_,rfl⟩ (I.putRet g.grew R (by simpa using m4 R rfl) G6)
  ·rename_i i H5;split at e
   case h_2=>cases e
   rename_i x0 j G7;have G8:d=[]:=by simpa using j
   subst G8;rw[Eh]at e;obtain⟨⟨s,D1⟩,m,e⟩:=e;rw[uU]at m;obtain⟨⟨sd,G9⟩,l,H0⟩:=Ei.1 m;cases H0;rw[Eh]at e;obtain⟨as,n,e⟩:=e;rw[Eh]at e;obtain⟨rs,p,e⟩:=e;split at e
   case isFalse=>cases e
   rename_i hB;simp only at n;rw[rg]at n;obtain⟨ad,H1,rfl⟩:=Ei.1 n;obtain⟨H6,H3,H4,_⟩:=I.homeTake (Y:=noY) (fun _ _=>id) l;obtain⟨Y,m1,m2,m3,m4⟩:=H3.mode (xs:=c.args.toList.eraseIdx i) H4 (fun q=>by rw[←q];congr 1;funext y;exact(ri G9 y).symm) hB;obtain⟨Pd,k1,k2,k3,k4,k5⟩:=I.homeTake m2 l;obtain⟨hA,H7,t⟩:=Inv.argsIo k3 k4 m3 G7 H1;have k:=L.1 f _ rs p w (ownBl sd) Y ad _ (L.2.at k1 k2) rfl hA;simp only[E6,EH];refine k.mono ?_;rintro e0 w' ⟨v,od,rd,rfl,g,F,hO,R⟩;obtain⟨q,rfl,hq⟩:=OutsOk.one k5 t hO;subst F;have G:=m4 R rfl;rw[OneHome.box t]at R;simp only[List.singleton_append,erR,EB]at e;rw[Eh]at e;obtain⟨U2,e1,e2⟩:=e;rw[wJ]at e1;obtain⟨D2,H,rfl⟩:=Ei.1 e1;obtain⟨Pr,n1,n2⟩:=I.homePut l g R G hq H;have J:Am.putRet mkU (Am.repP (erD D) x0 (erD D2)) o.dst (erR rd)=some U:=e2;rw[z6,rj]at J;replace n2:=I.repP (x:=x0) n2 fun h hh b ts b2 H8 q1 q2=>u6 l H hh q1 q2
   obtain⟨D',e3,rfl⟩:=Ei.1 J;exact z D' _ _ rfl ⟨_,rfl⟩ (n2.putRetP R (fun r F=>G r (by simp[F])) n1 e3)
 ·rw[zl w]at e;obtain⟨D',e',rfl⟩:=Ei.1 e;obtain⟨nx,w',m,n⟩:=qr ok I e';unfold Oper.wp;rw[m];cases n with
  |value y h=>exact z D' _ _ rfl ⟨_,rfl⟩ h
  |skip hd h =>show K (a.put o.dst undef) w';refine z D' _ _ rfl ⟨_,rfl⟩ ?_;rw[hd];exact h
def yieldAt {δ β:Type}(D:St δ β)(t:Nat):Option (Option Bool):=
 match D[t]? with
 |some (.one (.v (.bool b)))=>some (some b)
 |some (.tup [])=>some none
 |_=>none
theorem mw (D:DSt)(t:Nat):yieldAt (erD D) t=yieldAt D t:=by
 unfold yieldAt;rw[a8];cases D[t]? with
 |none=>rfl
 |some s =>
  cases s with
  |one u =>
   cases u with
   |s k d z r=>simp[Sl.er,aq]
   |v x=>cases x<;>rfl
   |any=>rfl
  |tup rs=>cases rs<;>rfl
  |_=>rfl
theorem Inv.yieldAt {cx:Cx}{D:DSt}{P:List (DT×Value)}{tm:Array Value}{w:World}(I:Inv cx D P tm w){t:Nat}{y:Option Bool}(e:yieldAt D t=some y):
  (match tm[t]? with|some (.bool b)=>some b|_=>none)=y:=by
 unfold Am.yieldAt at e;have a:∀s,D[t]?=some s→VS D s (tm.getD t undef)∧tm[t]?=some (tm.getD t undef):=by
  intro s h;have c:t<tm.size:=by
   rw[←I.size];rcases Em t D.length with g|g
   ·exact g
   ·rw[Ek g]at h;cases h
  refine⟨I.val t _ h,?_⟩;rw[ET,EO c];rfl
 split at e
 ·rename_i i h;cases e;obtain⟨d,f⟩:=a _ h;rw[f,show tm.getD t undef = .bool i from d.1]
 ·rename_i h;cases e;obtain⟨⟨j,d,_⟩,f⟩:=a _ h;rw[f,d]
 ·cases e
theorem Inv.putUndef {cx:Cx}{D:DSt}{a:Act}{w:World}(I:Inv cx D [] a.tmps w){t:Nat}(c:t<D.length):Inv cx (Am.putA D t (.tup [])) [] (a.put (some t) undef).tmps w :=
 I.putA c ⟨⟨#[],rfl,rfl,fun i r v h=>by simp at h⟩,⟨fun u b=>by simp[af]at b,fun u b=>by simp[rootsO]at b,trivial⟩,fun u b=>by simp[af]at b,rfl⟩
def runOps (tab:Tab)(fns:FuncId→Option Func)(C:Sem1)(tk:Nat→Bool)(ops:Array Oper):List Oper→Nat→US→Option US
 |[],_,D=>some D
 |o::r,i,D =>
  match o.guard with
  |none=>(stepU tab fns C D o (tk i)).bind (runOps tab fns C tk ops r (i+1))
  |some (j,a)=>
   match((ops[j]?).bind (·.dst)).bind (yieldAt D)with
   |some b=>if b=some a then(stepU tab fns C D o (tk i)).bind (runOps tab fns C tk ops r (i+1))else
    (match o.dst with|none=>some D|some t=>if t<D.length then some (putA D t (.tup []))else none).bind (runOps tab fns C tk ops r (i+1))
   |none=>none
theorem Inv.runOps2 {P:Program}{tab:Tab}(ok:aK P tab){fns:FuncId→Option Func}(hf:dA P fns){B:Base}{C:Sem1}{cx:Cx}(m:da P B C cx){tk:Nat→Bool}{ops:Array Oper}{Q:Exit→Act→World→Prop}{U:US}
  {T:Act→Prop} {l2:List Oper} (n:∀D' p w',erD D'=U→T p→Inv cx D' [] p.tmps w'→wpList P ops Q l2 p w'):∀(l:List Oper)(i:Nat){D:DSt}{a:Act}{w:World},(∀o∈l,∀a y,T a→T (a.put o.dst y))→Inv cx D [] a.tmps w→T a →
   runOps tab fns C tk ops l i (erD D)=some U→wpList P ops Q (l++l2) a w
 |[],i,D,a,w,_,I,hd,e=>by cases e;exact n D a w rfl hd I
 |o::l,i,D,a,w,u,I,hd,e=>by
  have f:∀o∈l,∀a y,T a→T (a.put o.dst y):=fun F h=>u F (by simp[h])
  have x:Region.wanted o (yielded ops a.tmps)=true→(Am.stepU tab fns C (erD D) o (tk i)).bind (Am.runOps tab fns C tk ops l (i+1))=some U→wpList P ops Q (o::(l++l2)) a w:=by intro G e;rw[Eh]at e;obtain⟨H,d,q⟩:=e;unfold wpList;rw[Ej G];refine .inl (I.stepU ok hf m d fun D' p w' v r J=>?_);subst v;obtain⟨y,rfl⟩:=r;exact Inv.runOps2 ok hf m n l (i+1) f J (u o (by simp) a y hd) q
  show wpList P ops Q (o::(l++l2)) a w;unfold Am.runOps at e;split at e
  ·rename_i s;exact x (by simp[Region.wanted,s]) e
  ·rename_i j z s;split at e
   case h_2=>cases e
   rename_i b hb;have A:yielded ops a.tmps j=b:=by rw[Eh]at hb;obtain⟨t,v,r⟩:=hb;rw[mw]at r;have:=I.yieldAt r;unfold yielded;rw[v];exact this
   split at e
   ·rename_i g;exact x (by simp[Region.wanted,s,A,g]) e
   ·rename_i g;unfold wpList;rw[Eu (by simp[Region.wanted,s,A,g])];rw[Eh]at e;obtain⟨H,d,q⟩:=e;split at d
    ·rename_i c;cases d;rw[c];exact Inv.runOps2 ok hf m n l (i+1) f I hd q
    ·rename_i t c;rw[ch]at d;split at d
     case isFalse=>cases d
     rename_i K;cases d;have:=I.putUndef K;have k:=u o (by simp) a undef hd;rw[c]at k ⊢;exact Inv.runOps2 (tk:=tk) ok hf m n l (i+1) f this k (by rw[oy];exact q)
theorem Inv.runOps {P:Program}{tab:Tab}(ok:aK P tab){fns:FuncId→Option Func}(hf:dA P fns){B:Base}{C:Sem1}{cx:Cx}(c:da P B C cx){tk:Nat→Bool}{ops:Array Oper}{Q:Exit→Act→World→Prop}{U:US}
  {T:Act→Prop} (d:∀D' b w',erD D'=U→T b→Inv cx D' [] b.tmps w'→Q .normal b w') (l:List Oper) (i:Nat) {D:DSt} {a:Act} {w:World} (f:∀o∈l,∀a y,T a→T (a.put o.dst y)) (I:Inv cx D [] a.tmps w) (hd:T a)
  (e:Am.runOps tab fns C tk ops l i (erD D)=some U):wpList P ops Q l a w:=by
 have:=Inv.runOps2 (l2:=[]) (Q:=Q) ok hf c d l i f I hd e
 rwa [EH]at this
section
variable  {δ β : Type}
def kill1 (D:St δ β)(t:Nat):St δ β:=if t<D.length then aE D (some t) .any else D
def killAll (l:List Nat)(D:St δ β):St δ β:=l.foldl kill1 D
theorem iR (D:St δ β)(t:Nat):(kill1 D t).length=D.length:=by
 unfold kill1;split
 ·simp[aE,aB,St.dead]
 ·rfl
theorem iC (D:St δ β)(t u:Nat)(h:t<D.length):(kill1 D t)[u]?=if u=t then some .any else(D[u]?).map (Sl.clean t):=by
 unfold kill1;rw[Ej h];simp only[aE,aB];by_cases e:u=t
 ·subst e;rw[Ej rfl,Ep (by simp[St.dead];exact h)];rfl
 ·rw[Eu e,Es (fun q=>e q.symm),Es (fun q=>e q.symm)];simp only[St.dead,Et,E8];rfl
theorem l4 (l:List Nat):∀(D:St δ β),(killAll l D).length=D.length:=by
 induction l with
 |nil=>intro D;rfl
 |cons a l b=>intro D;simp only[killAll,Fg];exact(b _).trans (iR D a)
theorem mR:∀(l:List Nat){D D':St δ β},D.length=D'.length→(∀u,u∉l→D[u]?=D'[u]?)→killAll l D=killAll l D'
 |[],D,D',b,h=>Ft fun u=>h u (by simp)
 |a::l,D,D',b,h=>by
  simp only[killAll,Fg];refine mR l (by rw[iR,iR,b]) fun u f=>?_
  by_cases c:a<D.length
  ·rw[iC D a u c,iC D' a u (b ▸ c)];by_cases e:u=a
   ·rw[Ej e,Ej e]
   ·rw[Eu e,Eu e,h u (by simp[e,f])]
  ·have d:¬a<D'.length:=b ▸ c;unfold kill1;rw[Eu c,Eu d];by_cases e:u=a
   ·subst e;rw[Ek (by omega),Ek (by omega)]
   ·exact h u (by simp[e,f])
end
theorem lC {δ β:Type}{t:Nat}:∀(l:List Nat){D:St δ β},t<D.length→t∈l∨D[t]?=some .any→(killAll l D)[t]?=some .any
 |[],D,_,h=>by
  rcases h with h|h
  ·cases h
  ·exact h
 |a::l,D,c,h=>by
  simp only[killAll,Fg];refine lC l (by rw[iR];exact c) ?_;by_cases b:a<D.length
  ·rw[iC D a t b];by_cases e:t=a
   ·right;rw[Ej e]
   ·rw[Eu e];rcases h with h|h
    ·left;simpa[e]using h
    ·right;rw[h];rfl
  ·rcases h with h|h
   ·left;have:t≠a:=by omega
    simpa[this]using h
   ·right;unfold kill1;rw[Eu b];exact h
theorem zf (D:DSt)(t:Nat):erD (kill1 D t)=kill1 (erD D) t:=by
 unfold kill1;rw[ch];split
 ·exact bf D (some t) .any
 ·rfl
theorem fi (l:List Nat):∀(D:DSt),erD (killAll l D)=killAll l (erD D):=by
 induction l with
 |nil=>intro D;rfl
 |cons a l b=>intro D;simp only[killAll,Fg];rw[←zf];exact b _
theorem Inv.kill1 {cx:Cx}{D:DSt}{tm:Array Value}{w:World}(I:Inv cx D [] tm w)(t:Nat):Inv cx (kill1 D t) [] tm w:=by
 unfold Am.kill1;split
 ·exact I.lose ‹_›
 ·exact I
theorem Inv.killAll {cx:Cx}{tm:Array Value}{w:World}(l:List Nat):∀{D:DSt},Inv cx D [] tm w→Inv cx (killAll l D) [] tm w:=by
 induction l with
 |nil=>intro D I;exact I
 |cons a l b=>intro D I;simp only[Am.killAll,Fg];exact b (I.kill1 a)
theorem vk {p:Nat→Nat→Bool}{t u:DT}(h:t.dead p=u)(a:u.isOwn=true):t=u:=by
 cases t with
 |v x=>exact h
 |any=>exact h
 |s k d z r =>
  cases k with
  |own=>exact h
  |far=>exact h
  |lent b c e =>simp only[T.dead]at h;split at h<;>(subst h;cases a)
theorem kE {D:DSt}{t h c:Nat}{u:DT}(e:am (kill1 D t) h c=some u)(b:u.isOwn=true):am D h c=some u:=by
 by_cases a:t<D.length
 ·unfold am at e;rw[iC D t h a]at e;by_cases hh:h=t
  ·rw[Ej hh]at e;simp[aD]at e
  ·rw[Eu hh]at e;have:am D h c=(D[h]?.bind aD).bind (·[c]?):=rfl;rw[this];cases hd:D[h]? with
   |none=>rw[hd]at e;simp at e
   |some s =>
    rw[hd]at e;simp only[Ee,Eg,Sl.clean,l3,lZ]at e ⊢;cases hc:aD s with
    |none=>rw[hc]at e;simp at e
    |some cs =>rw[hc]at e;simp only[Ee,Eg,Et]at e ⊢;rw[Ei]at e;obtain⟨g,d,f⟩:=e;rw[d,vk f b]
 ·unfold kill1 at e;rw[Eu a]at e;exact e
theorem qZ {D:DSt}{t h:Nat}{b:Nat×Nat}{ts:List DT}(e:(kill1 D t)[h]?=some (.box b ts)):∃c,D[h]?=some (.box b c):=by
 by_cases d:t<D.length
 ·rw[iC D t h d]at e;by_cases hh:h=t
  ·rw[Ej hh]at e;cases e
  ·rw[Eu hh,Ei]at e;obtain⟨s,f,a⟩:=e;rw[f];cases s with
   |box g ts'=>simp only[Sl.clean,Sl.dead,Sl.gone]at a;cases a;exact⟨_,rfl⟩
   |al=>simp only[Sl.clean,Sl.dead]at a;split at a<;>cases a
   |pe=>simp only[Sl.clean,Sl.dead]at a;split at a<;>cases a
   |pb=>simp only[Sl.clean,Sl.dead,Sl.gone]at a;split at a<;>cases a
   |clo=>simp only[Sl.clean,Sl.dead,Sl.gone]at a;split at a<;>cases a
   |im k b ts off =>
    cases k with
    |lent=>simp only[Sl.clean,Sl.dead]at a;split at a<;>cases a
    |_=>cases a
   |_=>cases a
 ·unfold kill1 at e;rw[Eu d]at e;exact⟨ts,e⟩
theorem mT {D:DSt}{t h c:Nat}{st:List (Nat×Nat)}{d:Dec}{z n:Nat}(e:cn (kill1 D t) h c st d z n):cn D h c st d z n:=by obtain⟨u,b,a,f⟩:=e;exact⟨u,kE b a,a,f⟩
theorem yU {D:DSt}{t:Nat}{s:DSl}{y:Value}(h:VS (kill1 D t) s y):VS D s y:=by
 cases s with
 |al j c st lo len=>obtain⟨d,z,n,a,e,g⟩:=h;exact⟨d,z,n,a,mT e,g⟩
 |pe j c st i off=>obtain⟨d,z,n,e,g⟩:=h;exact⟨d,z,n,mT e,g⟩
 |pb j off=>obtain⟨b,ts,e,g⟩:=h;obtain⟨k,l⟩:=qZ e;exact⟨b,k,l,g⟩
 |clo f hs =>obtain⟨m,e,g,l⟩:=h;refine⟨m,e,fun i j b hi hb=>?_,l⟩;obtain⟨ts,o⟩:=g i j b hi hb;exact qZ o
 |_=>exact h
theorem uM {cx:Cx}{D:DSt}{t:Nat}{u:DT}(h:aS cx (kill1 D t) u):aS cx D u:=by
 cases u with
 |v x=>trivial
 |any=>trivial
 |s k d z r =>
  cases k with
  |own=>trivial
  |far=>exact h
  |lent e f g=>obtain⟨v,b,a,c⟩:=h;exact⟨v,kE b a,a,c⟩
theorem uL {cx:Cx}{D:DSt}{t:Nat}{s:DSl}(h:cl cx (kill1 D t) s):cl cx D s:=by
 cases s with
 |im k b ts off =>
  cases k with
  |own=>exact h
  |far=>exact h
  |lent g i j=>obtain⟨v,c,a,d⟩:=h;exact⟨v,kE c a,a,d⟩
 |fni f caps=>exact h
 |_=>exact fun u e=>uM (h u e)
theorem Tells.kill {cx:Cx}{w:World}{s:DSl}{y:Value}(l:List Nat):∀{D:DSt},Tells cx (killAll l D) w s y→Tells cx D w s y:=by
 induction l with
 |nil=>intro D h;exact h
 |cons a l c =>intro D h;simp only[Am.killAll,Fg]at h;have b:=c h;exact⟨yU b.val,b.mem,uL b.kind,b.noown⟩
theorem lq {t:Nat}{s:DSl}(h:¬bz t s):s.clean t=s:=by
 have o:∀u:DT,¬(∃c g d z r,u = .s (.lent t c g) d z r)→u.dead (atH t)=u:=by
  intro u j;cases u with
  |v x=>rfl
  |any=>rfl
  |s k d z r =>
   cases k with
   |own=>rfl
   |far=>rfl
   |lent a l g =>
    have m:atH t a l=false:=by
     cases e:atH t a l with
     |false=>rfl
     |true =>
      have e:a=t:=by simpa[atH]using e
      subst e;exact absurd ⟨l,g,d,z,r,rfl⟩ j
    simp[T.dead,m]
 have n:∀us:List DT,¬(∃u∈us,∃c g d z r,u = .s (.lent t c g) d z r)→us.map (T.dead (atH t))=us:=by
  intro us j
  conv=>rhs;rw[←F9 us]
  exact EM fun u p=>o u fun⟨c,g,d,z,r,e⟩=>j ⟨u,p,c,g,d,z,r,e⟩
 unfold Sl.clean;cases s with
 |any=>rfl
 |one u=>simp only[Sl.dead,Sl.gone];rw[o u h]
 |agg ts=>simp only[Sl.dead,Sl.gone];rw[n ts h]
 |box b ts=>simp only[Sl.dead,Sl.gone];rw[n ts h]
 |al a c st lo len =>have:¬a=t:=h;simp[Sl.dead,Sl.gone,qH,this]
 |pe a c st i off =>have:¬a=t:=h;simp[Sl.dead,Sl.gone,qH,this]
 |pb a off =>have:¬a=t:=h;simp[Sl.dead,Sl.gone,this]
 |im k b ts off =>
  cases k with
  |own=>rfl
  |far=>rfl
  |lent a l g =>have:¬a=t:=h;simp[Sl.dead,Sl.gone,atH,this]
 |fni f caps=>rfl
 |clo f hs =>have:¬t∈hs:=h;simp[Sl.dead,Sl.gone,this]
 |tup rs =>
  simp only[Sl.dead,Sl.gone];congr 1
  conv=>rhs;rw[←F9 rs]
  refine EM fun r q=>?_
  rw[n r.2 fun⟨u,j,c,g,d,z,w,e⟩=>h ⟨r,q,u,j,c,g,d,z,w,e⟩];rfl
theorem gR {D:DSt}{t:Nat}{s:DSl}(b:∀s'∈D,¬bz t s')(hs:¬bz t s):aE D (some t) s=D.set t s:=by
 simp only[aE];rw[lq hs];have:(St.dead (atH t) (qH t) D).map (Sl.gone t)=D:=by
  simp only[St.dead,ES]
  conv=>rhs;rw[←F9 D]
  exact EM fun s' a=>lq (b s' a)
 unfold aB;rw[this,List.set_set]
def aQ (ops:Array Oper)(j:Nat):List Nat :=
 match ops[j]? with
 |some o=>(o.after.toList.filter (Region.binds .any)).map (·.on)
 |none=>[]
def bN (ops:Array Oper)(m:Nat):List Nat:=(List.range m).filterMap fun i=>(ops[i]?).bind (·.dst)
section
variable  {P : Program}{tab : Tab}
theorem rU (ok:aK P tab){cx:Cx}{D D':DSt}{a:Act}{w:World}(I:Inv cx D [] a.tmps w){dst:Option Nat}{t:Nat}{l c:Operand}
  (e:ct mkD (frD w) tab D dst t l c=some D'):∃y w' d V z rows,dst=some d∧D'=aE D (some d) (.one (.s .own V z rows))∧(Instr.makeSlice t (a.eval l) (a.eval c)).run P w = .ok y w'∧Grew w w'∧xE w w' (.s .own V z rows) y:=by
 unfold ct at e;split at e
 case h_2=>cases e
 rename_i sz W ze o d n k F X H;split at e
 case h_2=>cases e
 rename_i m J;split at e
 case isFalse=>cases e
 rename_i hc;split at e
 case isFalse=>cases e
 rename_i Y;cases e;obtain⟨hd,Z,K⟩:=hc;obtain⟨n1,n2,n3,n4⟩:=Y;have hu:=cU (Tab.ok ok F) rfl;obtain⟨i,d',z,g1,G4,L,g4,g5,M,g7,g3⟩:=cW (Tab.ok ok J);have G:=ez (P:=P) (t:=o) (w:=w) (cx:=cx) (D:=D) (ys:=z.cells.toList) g3;rw[←M]at G;have B:z.cells.size=m.size:=by rw[←K,M];simp[b7]
 have A:∀t∈m.zero.map (T.inj nilD),t.fine=true:=by intro t C;rw[M]at C;simp only[Ex,b7,Ff]at C;obtain⟨u,⟨j,hj,rfl⟩,rfl⟩:=C;unfold zT;split<;>rfl
 obtain⟨kl,N⟩:=I.opInt X;obtain⟨kc,O⟩:=I.opInt H;have f:=run_make w t o i z hu g1 L kl kc n k n1 n2 (by rw[g5];exact n3) (by omega);rw[←N, ←O]at f;have R:=RowsAre.init G.v (by omega) k.toNat;have Q:(madeCells z.cells (k.toNat*i.size))=((Array.range (k.toNat*z.cells.size)).map (fun i=>z.cells[i % z.cells.size]!)):=by unfold madeCells;rw[g4,B]
 rw[Q]at f;rw[B]at R f;generalize p:(Array.range (k.toNat*m.size)).map (fun i=>z.cells[i % m.size]!)=cells at R f;have g:=Grew.alloc w (.cells cells o);have q:(w.alloc (.cells cells o)).heap[w.heap.size]?=some (.cells cells o (0,0)):=by show(w.heap.push _)[w.heap.size]?=_;simp
 have G5:n.toNat≤k.toNat:=by omega
 have r:∀(i:Nat)(row:List DT),(List.replicate n.toNat (m.zero.map (T.inj nilD)))[i]?=some row→(List.replicate k.toNat (m.zero.map (T.inj nilD)))[i]?=some row:=by
  intro i row h;rw[GG]at h ⊢;split at h
  ·rw[Ej (by omega)];exact h
  ·cases h
 have S:∀(i:Nat)(row:List DT)(j:Nat)(t:DT),(List.replicate n.toNat (m.zero.map (T.inj nilD)))[i]?=some row→row[j]?=some t→pa w t:=fun i row j t hi hj=>by have:=Fa (Ef hi);subst this;exact G.bare A t (Ef hj)
 have U:cells.size=k.toNat*m.size:=by rw[←p];simp
 have hH:Holds (w.alloc (.cells cells o)) (.s .own ((frD w).row k.toNat) m.size (List.replicate n.toNat (m.zero.map (T.inj nilD)))):=by refine .s _ _ _ _ rfl rfl _ o (0,0) q (by simp[frD];omega) (fun i row h=>R.row i row (r i row h)) (fun i row j t hi hj=>?_) (fun i row j t hi hj=>(S i row j t hi hj).holds.frame fun b _ hb=>g.same b hb);obtain⟨y,y1,y2⟩:=R.val i row j t (r i row hi) hj;exact⟨y,by simpa[frD]using y1,y2⟩
 have hO:OwnT (w.alloc (.cells cells o)) (.s .own ((frD w).row k.toNat) m.size (List.replicate n.toNat (m.zero.map (T.inj nilD)))):=by refine .s _ _ _ rfl rfl _ o 0 0 q (by simp[frD];omega) (by simp[frD,U]) (fun x _ _ h=>by omega) (fun i row j t hi hj=>?_);have:=S i row j t hi hj;exact(jR this.fine this.own).frame fun b _ hb=>g.same b hb
 have s:(List.replicate n.toNat (m.zero.map (T.inj mkD.nil))).flatMap (fun x=>x.flatMap Am.bl)=[]:=by rw[Ey];intro row hr;rw[Ey];intro t C;obtain⟨i,hi⟩:=En hr;obtain⟨j,hj⟩:=En C;exact(S i row j t hi hj).bl
 refine⟨_,_,d,(frD w).row k.toNat,m.size,_,rfl,rfl,f,g,⟨by simp[VT,Dec.addr,frD],hH,hO,?_,fun b hb=>?_⟩⟩
 ·intro b;rw[bR,s];simp only[frD,EE,E3,EH];rw[List.count_singleton];split<;>omega
 ·rw[bR,s]at hb;simp[frD]at hb;subst hb;exact⟨EQ _,by simp⟩
end
def kI (M:US)(x:Operand)(i:Nat):Option (Sl Unit Unit):=
 match x with
 | .tmp q =>
  match M[q]? with
  |some (.tup rs)=>
   match rs[i]? with
   |some (false,[.v y])=>some (.one (.v y))
   |_=>none
  |_=>none
 |_=>none
theorem u1 {M:US}{x:Operand}{i:Nat}{s:Sl Unit Unit}(h:kI M x i=some s):∃q rs y,x = .tmp q∧M[q]?=some (.tup rs)∧rs[i]?=some (false,[.v y])∧s = .one (.v y):=by
 unfold kI at h;split at h
 case h_2=>cases h
 rename_i q;split at h
 case h_2=>cases h
 rename_i rs a;split at h
 case h_2=>cases h
 rename_i y hi;cases h;exact⟨q,rs,y,rfl,a,hi,rfl⟩
theorem rO {P:Program}{cx:Cx}{D:DSt}{a:Act}{w:World}(I:Inv cx D [] a.tmps w){o:Oper}{x:Operand}{i:Nat}(j:o.op = .extract x i){s:Sl Unit Unit}(e:kI (erD D) x i=some s):
  ∃y,s = .one (.v y)∧(execOp a.eval o).run P w = .ok (.value y) w∧Tells cx D w (.one (.v y)) y:=by
 obtain⟨q,rs,y,rfl,u,hi,rfl⟩:=u1 e;rw[a8,Ei]at u;obtain⟨A,J,B⟩:=u;obtain⟨b,rfl,rfl⟩:∃b,A = .tup b∧rs=b.map fun r=>(r.1,erL r.2):=by
  cases A with
  |tup b=>exact⟨b,rfl,by simpa[Sl.er]using B.symm⟩
  |_=>simp[Sl.er]at B
 rw[Et,Ei]at hi;obtain⟨⟨g,ts⟩,l,c⟩:=hi;simp only[Gx]at c;obtain⟨rfl,c⟩:=c;have K:ts=[.v y]:=by
  match ts,c with
  |[],c=>simp at c
  |[t],c =>
   simp only[EB,E6,Gb,Gr]at c;cases t with
   |v x=>rw[c8]at c;cases c;rfl
   |any=>cases c
   |s k d z r=>rw[aq]at c;cases c
  |t::N::r,c=>simp at c
 subst K;obtain⟨h,L,C,f⟩:=I.val q _ J;have M:i<b.length:=by
  rcases Em i b.length with g|g
  ·exact g
  ·rw[Ek g]at l;cases l
 have F:=f i _ h.toList[i] l (El (by omega));simp only[VPart,EE,E3]at F;obtain⟨t',G,m⟩:=F;simp only[Gb,Gr]at G;subst G;have n:a.eval (.tmp q)= .tuple h:=L;have hv:h[i]?=some y:=by have p:h.toList[i]=y:=m.1;rw[←p];simp
 refine⟨y,rfl,?_,Tells.one (t := .v y) ⟨rfl,by have p:h.toList[i]=y:=m.1;have H:=m.2;rw[p]at H;exact H⟩ (.v _) trivial rfl⟩;simp[execOp,j,n,Instr.extract,hv]
def stepV (tab:Tab)(fns:FuncId→Option Func)(C:Sem1)(M:US)(o:Oper):Option (Sl Unit Unit):=
 match callTo M o with
 |some (f,xs,caps)=>if(fns f).isSome∧tab.io.lookup f=none then(argsW mkU tab f M xs).bind fun as=>(C f (as++ims caps)).bind fun rs=>if lF false rs=true then jL mkU rs else none else none
 |none =>
  match o.op with
  | .buildSlice t len a =>
   match o.dst with
   |some d=>(cr mkU frU tab M (some d) t len a.toList).bind fun U=>match U[d]? with|some (.one u)=>if u.isOwn then some (.one u)else none|_=>none
   |none=>none
  | .makeSlice t l c =>
   match o.dst with
   |some d=>(ct mkU frU tab M (some d) t l c).bind fun U=>match U[d]? with|some (.one u)=>if u.isOwn then some (.one u)else none|_=>none
   |none=>none
  | .alloc b=>(tab.ti b).map fun ti=>.box () (ti.zero.map (T.inj ()))
  | .extract x i=>kI M x i
  | .move x=>match ef M x with|some rs=>some (.tup rs)|none=>a9 mkU tab M (.move x)
  | .build b a=>gt mkU tab M b a.toList
  |op=>a9 mkU tab M op
def tq (ops:Array Oper)(M:US)(o:Oper)(K:Option (Sl Unit Unit)):Option (Sl Unit Unit):=
 match o.guard with
 |none=>K
 |some (j,a)=>
  match((ops[j]?).bind (·.dst)).bind (yieldAt M)with
  |some b=>if b=some a then K else some (.tup [])
  |none=>none
theorem t7 {rd:b6}(hf:∀r∈rd,∀t∈r.2,t.fine=true){s:DSl}(h:jL mkD rd=some s)(t:Nat):¬bz t s:=by
 have f:∀r∈rd,∀u∈r.2,¬ ∃c j d z r,u=(.s (.lent t c j) d z r:DT):=by rintro r k u hu ⟨c,j,d,z,l,rfl⟩;exact absurd (hf r k _ hu) (by simp[T.fine])
 unfold jL at h;split at h
 ·rename_i r;split at h
  ·rename_i b row a;cases h;rintro⟨u,hu,c,j,d,z,l,rfl⟩;unfold mF at a;split at a
   case h_2=>cases a
   unfold kw at a;split at a
   case h_2=>cases a
   split at a
   case isFalse=>cases a
   rename_i i;cases a;rcases iB hu with hu|hu
   ·exact absurd (Eo.1 i.1 _ hu) (by simp[T.fine])
   ·exact absurd (Eo.1 i.2 _ hu) (by simp[T.isFar])
  obtain⟨g,ts⟩:=r;cases g with
  |true=>cases h;exact fun⟨u,hu,e⟩=>f _ (EN _) u hu e
  |false =>
   match ts,h with
   |[u],h=>cases h;exact fun e=>f _ (EN _) u (EN _) e
 ·cases h;exact fun⟨r,k,u,hu,e⟩=>f r k u hu e
theorem Inv.stepV {P:Program}{tab:Tab}(ok:aK P tab){fns:FuncId→Option Func}(hf:dA P fns){B:Base}{C:Sem1}{cx:Cx}(hC:da P B C cx){D:DSt}{a:Act}{w:World}(I:Inv cx D [] a.tmps w)
  {l:List Nat} {o:Oper} {t:Nat} (hd:o.dst=some t) (X:D[t]?=some .any) {s:Sl Unit Unit} (e:Am.stepV tab fns C (Am.killAll l (erD D)) o=some s) {K:Act→World→Prop} {Q:Exit→Act→World→Prop}
  (hK:∀D' a' w',erD D'=(erD D).set t s→(∃y,a'=a.put o.dst y)→Inv cx D' [] a'.tmps w'→K a' w'):o.wp P a w K Q:=by
 have A:t<D.length:=by
  rcases Em t D.length with g|g
  ·exact g
  ·rw[Ek g]at X;cases X
 rw[←fi]at e;have Z:=I.killAll l;unfold Am.stepV at e;split at e
 ·rename_i f xs caps hc;split at e
  case isFalse=>cases e
  rename_i H0;obtain⟨fn,H1⟩:=F1.1 H0.1;obtain⟨p1,p2,p3⟩:=hf f fn H1;rw[Eh]at e;obtain⟨as,G,e⟩:=e;rw[Eh]at e;obtain⟨rs,L,O⟩:=e;rw[sV]at G;obtain⟨ad,H3,rfl⟩:=Ei.1 G;obtain⟨hA,hN⟩:=Inv.argsW (Y:=noY) (fun y _ s e=>Z.argOf (Out.nil cx _) e) H3;split at O
  case isFalse=>cases O
  rename_i hB;obtain⟨c,x,S,m,G7,rfl,rfl,H4,H5⟩:=Z.callTo hc;have H6:=hA.ims H4;have H7:∀s∈ad++ims S,s.isHome=false:=fun s hs=>(EI.1 hs).elim (hN s) (tJ s)
  have G4:=hC.1 f _ rs L w [] noY (ad++ims S) _ (hC.2.at I (Out.nil cx D)) (by rw[FH,xT]) H6;have H:=rA (w:=w) m G7 H5 p1 p2 p3;unfold Oper.wp;rw[H];refine G4.mono ?_;rintro e w' ⟨v,od,rd,rfl,g,n,hO,R⟩;have:=OutsOk.none H7 hO;subst this;rw[qC]at n;subst n;rw[tb]at O;obtain⟨p,G8,rfl⟩:=Ei.1 O;have J:Am.putRet mkD D o.dst rd=some (aE D (some t) p):=by rw[hd];simp only[Am.putRet];rw[Ej A,G8];rfl
  have H8:ff cx rd:=pN (by simpa[lF]using hB) cx;have H9:∀r∈rd,∀t∈r.2,t.fine=true:=fun r n t ht=>by
   have G:((erR rd).all fun r=>r.2.all T.fine)=true:=by simpa[lF]using hB
   have G:=Eo.1 G (r.1,erL r.2) (Ex.2 ⟨r,n,rfl⟩);rw[show(erL r.2).all T.fine=r.2.all T.fine from cg T.fine T.fine lQ r.2]at G;exact Eo.1 G t ht
  have F:=I.putRet (a:=a) g.grew R H8 J;have M:aE D (some t) p=D.set t p:=gR (fun s' q=>by obtain⟨u,k⟩:=En q;exact I.any_refs X (I.val u s' k) (I.kind s' q)) (t7 H9 G8 t);rw[M]at F;exact hK _ _ _ (cN D t p) ⟨_,rfl⟩ F
 ·split at e
  ·rename_i bt len G5 m;rw[hd]at e;simp only at e;rw[Eh]at e;obtain⟨U,k1,k2⟩:=e;rw[k9 w]at k1;obtain⟨Ha,k3,rfl⟩:=Ei.1 k1;obtain⟨y,w',d',N,z,rows,j1,j2,j3,j4,V⟩:=qz ok Z k3;cases j1;subst j2;have W:(erD (aE (Am.killAll l D) (some t) (.one (.s .own N z rows))))[t]?=some (.one (.s .own () z (rows.map erL))):=by
    rw[a8];have hl:t<(aB t (Am.killAll l D)).length:=by simp[aB,St.dead,l4];exact A
    simp only[aE];rw[Ep hl];simp[Sl.clean,Sl.dead,Sl.gone,T.dead,Sl.er,aq]
   rw[W]at k2;simp only[T.isOwn,EV]at k2;cases k2;have R:RetOk w [] noY w' [] [] [(false,[(.s .own N z rows:DT)])] y:=by
    refine⟨.inl ⟨_,rfl,?_⟩,fun r n u k=>?_,fun r n u k=>?_,fun r n u k _=>?_,fun b=>?_,fun b hb=>?_⟩
    ·simp only[VPart,EE,E3];exact⟨_,rfl,V.val⟩
    ·rw[EL,Er]at n;subst n;rw[Er]at k;subst k;exact .inl rfl
    ·rw[EL,Er]at n;subst n;rw[Er]at k;subst k;exact V.holds
    ·rw[EL,Er]at n;subst n;rw[Er]at k;subst k;exact V.own
    ·simpa[ownR,T.isOwn,a6]using V.once b
    ·have:=V.new b (by simpa[ownR,T.isOwn,a6]using hb);exact⟨.inl this.1,this.2⟩
   have J:Am.putRet mkD D o.dst [(false,[(.s .own N z rows:DT)])]=some (aE D (some t) (.one (.s .own N z rows))):=by rw[hd];simp only[Am.putRet];rw[Ej A];rfl
   have F:=I.putRet (a:=a) j4 R (fun r n u k=>by rw[Er]at n;subst n;rw[Er]at k;subst k;exact .inl rfl) J;have M:aE D (some t) (.one (.s .own N z rows))=D.set t (.one (.s .own N z rows)):=gR (fun s' q=>by obtain⟨u,k⟩:=En q;exact I.any_refs X (I.val u s' k) (I.kind s' q)) (fun⟨c,fl,d,z,r,h⟩=>by cases h);rw[M]at F;have H:(execOp a.eval o).run P w = .ok (.value y) w':=by simp[execOp,m,j3]
   unfold Oper.wp;rw[H];exact hK _ _ _ (by rw[cN];simp[Sl.er,aq]) ⟨_,rfl⟩ F
  ·rename_i bt lo hi m;rw[hd]at e;simp only at e;rw[Eh]at e;obtain⟨U,k1,k2⟩:=e;rw[lT w]at k1;obtain⟨Ha,k3,rfl⟩:=Ei.1 k1;obtain⟨y,w',d',N,z,rows,j1,j2,j3,j4,V⟩:=rU ok Z k3;cases j1;subst j2;have W:(erD (aE (Am.killAll l D) (some t) (.one (.s .own N z rows))))[t]?=some (.one (.s .own () z (rows.map erL))):=by
    rw[a8];have hl:t<(aB t (Am.killAll l D)).length:=by simp[aB,St.dead,l4];exact A
    simp only[aE];rw[Ep hl];simp[Sl.clean,Sl.dead,Sl.gone,T.dead,Sl.er,aq]
   rw[W]at k2;simp only[T.isOwn,EV]at k2;cases k2;have R:RetOk w [] noY w' [] [] [(false,[(.s .own N z rows:DT)])] y:=by
    refine⟨.inl ⟨_,rfl,?_⟩,fun r n u k=>?_,fun r n u k=>?_,fun r n u k _=>?_,fun b=>?_,fun b hb=>?_⟩
    ·simp only[VPart,EE,E3];exact⟨_,rfl,V.val⟩
    ·rw[EL,Er]at n;subst n;rw[Er]at k;subst k;exact .inl rfl
    ·rw[EL,Er]at n;subst n;rw[Er]at k;subst k;exact V.holds
    ·rw[EL,Er]at n;subst n;rw[Er]at k;subst k;exact V.own
    ·simpa[ownR,T.isOwn,a6]using V.once b
    ·have:=V.new b (by simpa[ownR,T.isOwn,a6]using hb);exact⟨.inl this.1,this.2⟩
   have J:Am.putRet mkD D o.dst [(false,[(.s .own N z rows:DT)])]=some (aE D (some t) (.one (.s .own N z rows))):=by rw[hd];simp only[Am.putRet];rw[Ej A];rfl
   have F:=I.putRet (a:=a) j4 R (fun r n u k=>by rw[Er]at n;subst n;rw[Er]at k;subst k;exact .inl rfl) J;have M:aE D (some t) (.one (.s .own N z rows))=D.set t (.one (.s .own N z rows)):=gR (fun s' q=>by obtain⟨u,k⟩:=En q;exact I.any_refs X (I.val u s' k) (I.kind s' q)) (fun⟨c,fl,d,z,r,h⟩=>by cases h);rw[M]at F;have H:(execOp a.eval o).run P w = .ok (.value y) w':=by simp[execOp,m,j3]
   unfold Oper.wp;rw[H];exact hK _ _ _ (by rw[cN];simp[Sl.er,aq]) ⟨_,rfl⟩ F
  ·rename_i bt m;rw[Ei]at e;obtain⟨ti,G9,rfl⟩:=e;have Hb:iv mkD (frD w) tab D (some t) bt=some (aE D (some t) (.box (frD w).box (ti.zero.map (T.inj mkD.nil)))):=by simp only[iv,G9];rw[Ej A]
   obtain⟨y,w',G,L⟩:=oD ok I Hb;obtain⟨z,g1,g2,g3⟩:=mc (Tab.ok ok G9) w;have G6:∀t∈ti.zero.map (T.inj mkD.nil),t.fine=true:=by intro t ht;rw[g2]at ht;simp only[Ex,b7,Ff]at ht;obtain⟨u,⟨j,hj,rfl⟩,rfl⟩:=ht;unfold zT;split<;>rfl
   have M:aE D (some t) (.box (frD w).box (ti.zero.map (T.inj mkD.nil)))=D.set t (.box (frD w).box (ti.zero.map (T.inj mkD.nil))):=gR (fun s' q=>by obtain⟨u,k⟩:=En q;exact I.any_refs X (I.val u s' k) (I.kind s' q)) (fun⟨u,k,c,fl,d,z,r,h⟩=>by have:=G6 u k;rw[h]at this;simp[T.fine]at this);rw[M]at L;have H:(execOp a.eval o).run P w = .ok (.value y) w':=by simp[execOp,m,G]
   unfold Oper.wp;rw[H];rw[←hd]at L;exact hK _ _ _ (by rw[cN];show(erD D).set t (.box () (erL (ti.zero.map (T.inj mkD.nil))))=_;rw[←ii]) ⟨_,rfl⟩ L
  ·rename_i x i m;obtain⟨y,rfl,G,L⟩:=rO (P:=P) Z m e;have O:=L.kill l;unfold Oper.wp;rw[G];have F:Inv cx (Am.putA D t (.one (.v y))) [] (a.put (some t) y).tmps w:=I.putA A O;have M:Am.putA D t (.one (.v y))=D.set t (.one (.v y)):=by unfold Am.putA;rw[X]
   rw[M, ←hd]at F;exact hK _ _ _ (by rw[cN];simp[Sl.er,c8]) ⟨_,rfl⟩ F
  ·rename_i x m;rw[pU]at e;have I3:∀(p:DSl)(y:Value),(execOp a.eval o).run P w = .ok (.value y) w→Tells cx (Am.killAll l D) w p y→s=p.er→o.wp P a w K Q:=fun p y G L he=>by
    have O:=L.kill l;unfold Oper.wp;rw[G];have F:Inv cx (Am.putA D t p) [] (a.put (some t) y).tmps w:=I.putA A O;have M:Am.putA D t p=D.set t p:=by unfold Am.putA;rw[X]
    rw[M, ←hd]at F;exact hK _ _ _ (by rw[cN,he]) ⟨_,rfl⟩ F
   cases hT:ef (Am.killAll l D) x with
   |some rs =>rw[hT]at e;simp only[Ee,EY]at e;exact I3 (.tup rs) (a.eval x) (by simp[execOp,m]) (rH Z hT) e.symm
   |none =>rw[hT]at e;simp only[GH]at e;rw[pf]at e;obtain⟨p,e',rfl⟩:=Ei.1 e;rw[←m]at e';obtain⟨y,G,L⟩:=jI ok Z e';exact I3 p y G L rfl
  ·rename_i bt G5 m;rw[pO]at e;obtain⟨p,e',rfl⟩:=Ei.1 e;obtain⟨y,G,L⟩:=oE ok Z e';have O:=L.kill l;have H:(execOp a.eval o).run P w = .ok (.value y) w:=by simp[execOp,m,G]
   unfold Oper.wp;rw[H];have F:Inv cx (Am.putA D t p) [] (a.put (some t) y).tmps w:=I.putA A O;have M:Am.putA D t p=D.set t p:=by unfold Am.putA;rw[X]
   rw[M, ←hd]at F;exact hK _ _ _ (cN D t p) ⟨_,rfl⟩ F
  rw[pf]at e;obtain⟨p,e',rfl⟩:=Ei.1 e;obtain⟨y,G,L⟩:=jI ok Z e';have O:=L.kill l;unfold Oper.wp;rw[G];have F:Inv cx (Am.putA D t p) [] (a.put (some t) y).tmps w:=I.putA A O;have M:Am.putA D t p=D.set t p:=by unfold Am.putA;rw[X]
  rw[M, ←hd]at F;exact hK _ _ _ (cN D t p) ⟨_,rfl⟩ F
end Go.Proofs.Ytlhgcolciklecaa.Am
