/- An abstract machine over trees, and that its steps are sound, a part. Conditions: none. -/
import Derived.Test.YticaelmbkfeeaaaAma
import Derived.Laws.BytesArg
import Derived.Laws.IdiomStrings
namespace Go.Proofs.Yticaelmbkfeeaaa.Am
open Go
set_option linter.unusedVariables false
set_option linter.unusedSimpArgs false
section
variable  {δ β : Type}
def mf (M:Mk δ β)(D:St δ β)(c:Bool)(x:Operand):Option (Nat×List (List (T δ))×St δ β):=
 match c with
 |true =>
  match cellsCopy M D x with
  |some (false,[.s _ _ b a])=>if a.all (fun r=>r.all T.flat)=true then some (b,a,D)else none
  |_=>none
 |false =>
  match cellsTake M D x with
  |some (false,[.s .own _ b a],d)=>some (b,a,d)
  |_=>none
def gd (M:Mk δ β)(F:gz δ β)(tab:Tab)(D:St δ β)(dst:Option Nat)(t g:Nat)(s x:Operand):Option (St δ β):=
 match tab.ti t,tab.ti g,dst,cellsTake M D s with
 |some ⟨_,_,_,.slice e⟩,some ⟨_,_,_,.slice _⟩,some c,some (false,[.s .own d z rows],D1)=>
  match tab.ti e with
  |some b =>
   match mf M D1 (b.zero.all T.flat) x with
   |some (h,a,f)=>
    if c<f.length∧b.size=z∧b.size≠0∧b.zero.length=b.size∧h=z then
     if(rows.length+a.length)*b.bytes≤140737488355328∧rows.length+a.length≤4611686018427387904 then
      some (av f (some c) (.one (.s .own (F.app d rows.length a.length e) z (rows++a))))
     else none
    else none
   |none=>none
  |none=>none
 |_,_,_,_=>none
end
theorem vq {t:DT}(h:t.flat=true):bl t=[]:=by
 cases t with
 |v x=>rfl
 |any=>rfl
 |s k d z r=>cases h
theorem ta {w:World}{t:DT}(h:t.flat=true):OwnT w t∧Holds w t:=by
 cases t with
 |v x=>exact⟨.v x,.v x⟩
 |any=>exact⟨.any,.any⟩
 |s k d z r=>cases h
theorem vG {cx:Cx}{D t:DSt}{y:List (DT×Value)}{a:Act}{w:World}(I:Inv cx D y a.tmps w){z:Bool}{x:Operand}{n:Nat}{c:List (List DT)}(e:mf mkD D z x=some (n,c,t)):
  ∃l k m,Inv cx t (m++y) a.tmps w∧VT (.s l k n c) (a.eval x)∧Holds w (.s l k n c)∧(∀(i:Nat)(row:List DT)(j:Nat)(u:DT),c[i]?=some row→row[j]?=some u→OwnT w u) ∧
   ∀b,(c.flatMap (fun x=>x.flatMap bl)).count b≤aq m b:=by
 unfold mf at e;split at e
 ·split at e
  case h_2=>cases e
  rename_i l k o g p;split at e
  case isFalse=>cases e
  rename_i d;cases e;obtain⟨q,h,f⟩:=I.cellsCopy p;simp only[aP,Ch,CD]at f;subst f;refine⟨l,k,[],I,h.v.2 0 _ _ rfl rfl,h.holds _ (Cj _),fun i row j u h1 h2=>(ta (B2.1 (B2.1 d row (BR h1)) u (BR h2))).1,fun b=>?_⟩;have:c.flatMap (fun x=>x.flatMap bl)=[]:=by rw[Ca];intro row A;rw[Ca];intro u B;exact vq (B2.1 (B2.1 d row A) u B)
  rw[this];simp
 ·split at e
  case h_2=>cases e
  rename_i k o g C p;cases e;obtain⟨q,m,F,h,f⟩:=I.cellsTakeP p;simp only[aP,Ch,CD]at f;subst f;have G:=h.own _ (Cj _) rfl;refine⟨.own,k,m,F,h.v.2 0 _ _ rfl rfl,h.holds _ (Cj _),fun i row j u h1 h2=>?_,fun b=>?_⟩
  ·cases G with
   |nil=>simp at h1
   |s _ _ _ _ _ _ _ _ _ _ _ _ _ r=>exact r i row j u h1 h2
  ·have:=h.cnt b;simp only[B9,Df,Cp,ownR,T.isOwn,CI,bv,Ce]at this;omega
theorem sE {P:Program}{tab:Tab}(ok:ax P tab){cx:Cx}{D D':DSt}{a:Act}{w:World}(I:Inv cx D [] a.tmps w){dst:Option Nat}{t t2 ty:Nat}{s x:Operand}
  (e:gd mkD (frD w) tab D dst t t2 s x=some D'):∃y w',(Builtin.append_ #[t,t2] ty #[a.eval s,a.eval x]).run P w = .ok y w'∧Inv cx D' [] (a.put dst y).tmps w':=by
 unfold gd at e;split at e
 case h_2=>cases e
 rename_i _ _ _ N _ _ _ Gi d' d z rows D1 G4 Fp hs;split at e
 case h_2=>cases e
 rename_i n G5;split at e
 case h_2=>cases e
 rename_i z2 f D2 hx;split at e
 case isFalse=>cases e
 rename_i hc;split at e
 case isFalse=>cases e
 rename_i hn;cases e;obtain⟨hd,rfl,Gj,G6,rfl⟩:=hc;obtain⟨F3,Gk⟩:=hn;obtain⟨ys,Fb,I0,G,hv⟩:=I.cellsTake hs;obtain⟨k2,d2,P2,I1,G7,Fq,U,Fc⟩:=vG I0 hx;have L:=cL (Tab.ok ok G4) rfl;have Fe:=cL (Tab.ok ok Fp) rfl;obtain⟨i,dd,zv,g1,Gl,G8,g4,g5,g2,g7,g3⟩:=cO (Tab.ok ok G5);have G9:zv.cells.size=n.size:=by rw[←G6,g2];simp[bG]
 simp only[aP,Ch,CD]at hv;subst hv;have hy:VT (.s .own d n.size rows) (a.eval s):=G.v.2 0 _ _ rfl rfl;have hH:=G.holds _ (Cj _);have hO:=G.own _ (Cj _) rfl;have Ff:∀b,(bl (.s .own d n.size rows:DT)).count b≤aq Fb b:=fun b=>by have:=G.cnt b;simpa[ownR,T.isOwn]using this
 generalize Ft:P2++Fb=Pd at I1;have O:∀b,(bl (.s .own d n.size rows:DT)).count b+(f.flatMap (fun x=>x.flatMap bl)).count b≤aq Pd b:=fun b=>by have h1:=Ff b;have h2:=Fc b;rw[←Ft,de,DR (aq P2 b)];exact Nat.add_le_add h1 h2
 obtain⟨C,R1,o1,c1⟩:=hH.cells (by omega);obtain⟨l,R2,o2,c2⟩:=Fq.cells (by omega);have Q:∀(i:Nat)(row:List DT)(j:Nat)(u:DT),f[i]?=some row→row[j]?=some u→Holds w u:=fun i row j u h1 h2=>by
  cases Fq with
  |e=>simp at h1
  |s _ _ _ _ _ _ c' e' f' J _ _ F4 V=>exact V i row j u h1 h2
 have W:a.eval s = .slice d.addr rows.length d.cap:=hy;have Fu:a.eval x = .slice d2.addr f.length d2.cap:=G7;have Ga:l.length=f.length*i.size:=by rw[g4];exact R2.len
 have Gb:∀w0:World,(∀a,w0.cell? a=w.cell? a)→Src P i.size t2 (a.eval x) f.length l w0:=by
  intro w0 Gc;rw[Fu];rcases c2 with⟨rfl,rfl⟩|⟨H,X,q3⟩
  ·cases K:d2.addr with
   |none=>exact Src.ofNil w0 Fe d2.cap
   |some ad=>exact Src.ofSlice w0 Fe ad 0 d2.cap [] (by simp) (fun j u h=>by simp at h) (fun u h=>by cases h)
  ·have K:d2.addr=some ⟨d2.b,d2.o,none⟩:=by rw[Dec.addr_none X,H];rfl
   rw[K];exact Src.ofSlice w0 Fe _ _ _ l Ga (fun j u h=>by rw[Gc,Addr.add_lit];exact q3 j u h) o2
 have hS:=Gb w (fun _=>rfl);by_cases hroom:rows.length+f.length≤d.cap
 ·
  have Y:(frD w).app d rows.length f.length N=d:=by simp only[frD];rw[BZ hroom]
  rw[Y];cases hO with
  |nil _ _ F hsp hcap =>
   rw[hcap]at hroom;have h2:f=[]:=C1.1 (by have h:=hroom;rw[Ef]at h;omega);subst h2;have Fg:l=[]:=C1.1 (by rw[R2.len];simp);subst Fg;have K:d.addr=none:=by rw[Dec.addr_none hsp,F];rfl
   refine⟨a.eval s,w,?_,?_⟩
   ·rw[W,K,hcap];have hk:=hS.kind;have Gd:(Builtin.firstCells i.size 0 (a.eval x)).run P w = .ok #[] w:=by simpa using hS.cells
    rcases hk with⟨e',hk⟩|hk <;>
     simp[Builtin.append_,run_underlying L,run_underlying hk,sizeOf,typeInfo,g1,hS.len,Gd]
   ·have hG:Got cx D2 w Pd [(.s .own d n.size []:DT)] [a.eval s]:=⟨G.v,G.holds,G.own,fun u L=>by rw[B4]at L;subst L;trivial,fun b=>by
     have h1:=G.cnt b;have h3:aq Pd b=aq P2 b+aq Fb b:=by rw[←Ft,de]
     omega⟩
    exact I1.putGot (g:=false) (s := .one (.s .own d n.size ([]++[]))) hG (by simp[aP]) rfl (fun t' h=>by cases h;exact hd) rfl
  |s _ _ _ F hsp c ec lo hi hb hcap F5 Fv Fh =>
   have K:d.addr=some ⟨d.b,d.o,none⟩:=by rw[Dec.addr_none hsp,F];rfl
   have Ge:(rows.length+f.length)*n.size≤d.cap*n.size:=CV _ hroom;rw[Da]at Ge;have Gg:l.length=f.length*n.size:=R2.len;have S:d.o+rows.length*n.size+l.length≤c.size:=by omega
   have r:=run_append_room_src (P:=P) w t t2 ty N i L g1 d.b d.o rows.length d.cap (a.eval x) f.length l hS hroom
    (fun j hj=>by rw[km hb,g4,Cs (by omega)];rfl)
    (fun j hj=>by have hx:=Fv (d.o+rows.length*n.size+j) (by omega) (by omega);rw[g4];simp only[World.frozen?,hb];simp;omega)
   rw[←K, ←W,g4]at r;obtain⟨f1,f2,f3,f4,f5,f6⟩:=eO d.b ec (lo,hi) l (d.o+rows.length*n.size) w c hb S;generalize Gm:w.setCells d.b (d.o+rows.length*n.size) l=w' at r f1 f2 f3 f4 f5 f6;have F9:d.b∈bl (.s .own d n.size rows:DT):=en F;have hB:0<aq Pd d.b:=Cr (B8.2 F9) (by have:=O d.b;omega);have Gh:(bl (.s .own d n.size rows:DT)).count d.b+(f.flatMap (fun x=>x.flatMap bl)).count d.b≤1:=CH (O d.b) (by have:=I1.once d.b;omega);have F6:∀(m:Nat)(A:List DT)(j:Nat)(u:DT),rows[m]?=some A→A[j]?=some u→d.b∉bl u:=by intro m A j u h1 h2 hm;have H:=sb (k := .own) (d:=d) (z:=n.size) h1 h2 d.b;rw[F]at H;simp only[Ch,CD]at H;have q3:0<(bl u).count d.b:=B8.2 hm;simp at H;omega
   have Z:∀(m:Nat)(A:List DT)(j:Nat)(u:DT),f[m]?=some A→A[j]?=some u→d.b∉bl u:=by intro m A j u h1 h2 hm;have q0:0<(bl (.s .own d n.size rows:DT)).count d.b:=B8.2 F9;have H:0<(f.flatMap (fun x=>x.flatMap bl)).count d.b:=B8.2 (B5.2 ⟨A,BR h1,B5.2 ⟨u,BR h2,hm⟩⟩);omega
   have gx:r9 d.b w w':=⟨f4,f5,f6,by omega,fun b J _=>f2 b J⟩
   have Fi:d.o+rows.length*n.size+l.length≤c.toList.length:=by simpa using S
   have F0:∀(m:Nat)(row:List DT),(rows++f)[m]?=some row→row.length=n.size:=fun m row h=>(R1.append R2).row m row h
   have F1:∀(m:Nat)(row:List DT)(j:Nat)(u:DT),(rows++f)[m]?=some row→row[j]?=some u →
     (rows[m]?=some row∧m<rows.length)∨(f[m-rows.length]?=some row∧rows.length≤m):=by
    intro m row j u h1 h2;rcases BY m rows.length with q|q
    ·rw[CA q]at h1;exact .inl ⟨h1,q⟩
    ·rw[Cy q]at h1;exact .inr ⟨h1,q⟩
   have Fw:∀(m:Nat)(row:List DT)(j:Nat)(u:DT),(rows++f)[m]?=some row→row[j]?=some u→∃y,((am c.toList (d.o+rows.length*n.size) l).toArray)[d.o+m*n.size+j]?=some y∧VT u y:=by
    intro m row j u h1 h2;have Gf:j<n.size:=by
     have:=F0 m row h1;rcases BY j row.length with q|q
     ·omega
     ·rw[BV q]at h2;cases h2
    simp only[DA];rcases F1 m row j u h1 h2 with⟨H,X⟩|⟨H,X⟩
    ·have Fj:=iI X Gf;cases hH with
     |e=>simp at X
     |s _ _ _ _ _ _ c' e' f' J _ _ F4 _ =>rw[hb]at J;cases J;obtain⟨y,y1,y2⟩:=F4 m row j u H h2;refine⟨y,?_,y2⟩;rw[fi Fi (by omega)];simpa using y1
    ·obtain⟨y,y1,y2⟩:=R2.val _ row j u H h2;refine⟨y,?_,y2⟩;have e1:(m-rows.length)*n.size=m*n.size-rows.length*n.size:=Nat.sub_mul _ _ _;have e2:rows.length*n.size≤m*n.size:=CV _ X;have Fj:m*n.size-rows.length*n.size+j<l.length:=by
      rcases BY ((m-rows.length)*n.size+j) l.length with p|p
      ·omega
      ·rw[BV p]at y1;cases y1
     rw[bS Fi,Cd (by omega),BZ (by omega)];rw[show d.o+m*n.size+j-(d.o+rows.length*n.size)=(m-rows.length)*n.size+j by omega];exact y1
   have B:∀u:DT,d.b∉bl u→∀b∈bl u,b<w.heap.size→w'.heap[b]?=w.heap[b]?:=fun u L b J _=>f2 b (fun e=>L (e ▸ J))
   have M:∀(m:Nat)(row:List DT)(j:Nat)(u:DT),(rows++f)[m]?=some row→row[j]?=some u→Holds w' u∧OwnT w' u:=by
    intro m row j u h1 h2;rcases F1 m row j u h1 h2 with⟨H,X⟩|⟨H,X⟩
    ·have F2:=F6 m row j u H h2;refine⟨?_,(Fh m row j u H h2).frame (B u F2)⟩;cases hH with
     |e=>simp at X
     |s _ _ _ _ _ _ c' e' f' J _ _ F4 V=>exact(V m row j u H h2).frame (B u F2)
    ·have F2:=Z _ row j u H h2;exact⟨(Q _ row j u H h2).frame (B u F2),(U _ row j u H h2).frame (B u F2)⟩
   have F7:Holds w' (.s .own d n.size (rows++f)):= .s _ _ _ _ F hsp _ ec (lo,hi) f1 (by simpa using hroom) F0 Fw (fun m row j u h1 h2=>(M m row j u h1 h2).1);have F8:OwnT w' (.s .own d n.size (rows++f)):= .s _ _ _ F hsp _ ec lo hi f1 (by simpa using hroom) (by simp only[D9];rw[fh Fi];simpa using F5) Fv (fun m row j u h1 h2=>(M m row j u h1 h2).2);have Fx:VT (.s .own d n.size (rows++f)) (.slice d.addr (rows.length+f.length) d.cap):=by simp[VT]
   have Fk:∀b,(bl (.s .own d n.size (rows++f):DT)).count b≤aq Pd b:=fun b=>by have:=O b;rw[bv,Ce]at this ⊢;rw[CZ,Ce, ←C2];exact this
   have I2:=I1.pendWrite (P:=Pd) hB gx Fx F7 F8 rfl Fk;refine⟨_,w',r,?_⟩;refine I2.putGot (g:=false) (ts:=[.s .own d n.size (rows++f)]) (ys:=[.slice d.addr (rows.length+f.length) d.cap]) ⟨.one Fx,fun u L=>?_,fun u L _=>?_,fun u L=>?_,fun b=>?_⟩ (by simp[aP]) rfl (fun t' h=>by cases h;exact hd) rfl
   ·rw[B4]at L;subst L;exact F7
   ·rw[B4]at L;subst L;exact F8
   ·rw[B4]at L;subst L;trivial
   ·simp[aq]
 ·
  have Y:(frD w).app d rows.length f.length N=⟨w.heap.size,0,grownCap w (rows.length+f.length) d.cap N,false,none⟩:=by simp only[frD];rw[Cd hroom]
  rw[Y];have S:=growslice_fits (need:=rows.length+f.length) (old:=d.cap) (bytes:=n.bytes) (by omega) F3;have Fy:(Builtin.firstCells i.size rows.length (.slice d.addr rows.length d.cap)).run P w.drew = .ok C.toArray w.drew:=by
   rcases c1 with⟨rfl,rfl⟩|⟨H,X,q3⟩
   ·cases K:d.addr with
    |none=>exact run_firstCells_none w.drew _ _ _ _
    |some ad=>exact run_firstCells_some w.drew i.size 0 ad 0 d.cap [] (by simp) (fun j u h=>by simp at h)
   ·have K:d.addr=some ⟨d.b,d.o,none⟩:=by rw[Dec.addr_none X,H];rfl
    rw[K];exact run_firstCells_some w.drew i.size rows.length _ _ _ C (by rw[g4];exact R1.len) (fun j u h=>by rw[Addr.add_lit];exact q3 j u h)
  have r:=run_append_grow_src (P:=P) w t t2 ty N i zv L g1 G8 d.addr rows.length d.cap C Fy (a.eval x) f.length l hS (by omega) (by omega) (by rw[g5];exact S);rw[←W]at r;have Fl:=grownCap_ge w (rows.length+f.length) d.cap N;generalize Gn:grownCap w (rows.length+f.length) d.cap N=gc at r Fl;have R:=R1.append R2;generalize Fz:(C++l).toArray++Builtin.zeroCells zv.cells (gc-(rows.length+f.length))=cells at r;have Fm:cells.size=gc*n.size:=by rw[←Fz,Array.size_append,size_zeroCells,G9,D9,R.len, ←Da];congr 1;simp;omega
  have g:=(Grew.drew w).trans (Grew.alloc w.drew (.cells cells N));have Fa:(w.drew.alloc (.cells cells N)).heap[w.heap.size]?=some (.cells cells N (0,0)):=by show(w.heap.push _)[w.heap.size]?=_;simp
  have Fo:∀(j:Nat)(u:Value),(C++l)[j]?=some u→cells[j]?=some u:=by
   intro j u h;have Fj:j<(C++l).length:=by
    rcases BY j (C++l).length with q|q
    ·exact q
    ·rw[BV q]at h;cases h
   rw[←Fz,DB (by simpa using Fj)];simpa using h
  have M:∀(m:Nat)(row:List DT)(j:Nat)(u:DT),(rows++f)[m]?=some row→row[j]?=some u→Holds (w.drew.alloc (.cells cells N)) u∧OwnT (w.drew.alloc (.cells cells N)) u:=by
   intro m row j u h1 h2;rcases BY m rows.length with q|q
   ·rw[CA q]at h1;refine⟨?_,?_⟩
    ·cases hH with
     |e=>simp at q
     |s _ _ _ _ _ _ c' e' f' J _ _ F4 V=>exact(V m row j u h1 h2).frame fun b _ hb=>g.same b hb
    ·cases hO with
     |nil=>simp at q
     |s _ _ _ _ _ _ _ _ _ _ _ _ _ Fh=>exact(Fh m row j u h1 h2).frame fun b _ hb=>g.same b hb
   ·rw[Cy q]at h1;exact⟨(Q _ row j u h1 h2).frame fun b _ hb=>g.same b hb,(U _ row j u h1 h2).frame fun b _ hb=>g.same b hb⟩
  have F7:Holds (w.drew.alloc (.cells cells N)) (.s .own ⟨w.heap.size,0,gc,false,none⟩ n.size (rows++f)):=by refine .s _ _ _ _ rfl rfl _ N (0,0) Fa (by simpa using Fl) R.row (fun m row j u h1 h2=>?_) (fun m row j u h1 h2=>(M m row j u h1 h2).1);obtain⟨y,y1,y2⟩:=R.val m row j u h1 h2;exact⟨y,by simpa using Fo _ _ y1,y2⟩
  have F8:OwnT (w.drew.alloc (.cells cells N)) (.s .own ⟨w.heap.size,0,gc,false,none⟩ n.size (rows++f)):=
   .s _ _ _ rfl rfl _ N 0 0 Fa (by simpa using Fl) (by simp[Fm]) (fun x _ _ h=>by omega) (fun m row j u h1 h2=>(M m row j u h1 h2).2)
  refine⟨_,_,r,I1.newRows (P:=Pd) g (by simp) (d:=⟨w.heap.size,0,gc,false,none⟩) ⟨rfl,rfl⟩ F7 F8 (fun b=>?_) hd (by simp[VT,Dec.addr])⟩;rw[CZ,Ce];have:=O b;rw[bv,Ce]at this;exact CH (Nat.add_le_add_right (Nat.le_add_left _ _) _) this
section
variable  {δ β : Type}
def ce:List (List (T δ))→Option (List Int)|[]=>some []|[.v (.int .u8 n)]::r=>(ce r).map fun l=>n::l|_::_=>none
def ge (M:Mk δ β)(tab:Tab)(D:St δ β)(a dst:Nat)(x:Operand):Option (List (List (T δ))):=
 match tab.ti a,tab.ti dst,cellsCopy M D x with
 |some ⟨_,_,_,.slice e⟩,some ⟨_,_,_,.str⟩,some (false,[.s _ _ 1 rows])=>match tab.ti e with|some ⟨_,_,_,.int .u8⟩=>some rows|_=>none
 |_,_,_=>none
end
theorem oE:∀{rows:List (List DT)}{xs:List Int},ce rows=some xs→rows=xs.map fun n=>[.v (.int .u8 n)]
 |[],xs,h=>by cases h;rfl
 |r::rs,xs,h=>by
  unfold ce at h;split at h
  ·rename_i a;cases a
  ·rename_i n c a;cases a;rw[BS]at h;obtain⟨l,b,rfl⟩:=h;rw[oE b];rfl
  ·cases h
theorem qw {P:Program}{tab:Tab}(ok:ax P tab){cx:Cx}{D:DSt}{a:Act}{w:World}(I:Inv cx D [] a.tmps w){c dst:Nat}{x:Operand}{rows:List (List DT)}{xs:List Int}
  (e:ge mkD tab D c dst x=some rows) (B:ce rows=some xs):(convert c dst (a.eval x)).run P w = .ok (.string (strOfNums xs)) w:=by
 unfold ge at e;split at e
 case h_2=>cases e
 rename_i _ _ _ q _ _ _ k d r hs hd C;split at e
 case h_2=>cases e
 rename_i F;cases e;obtain⟨ys,G,hv⟩:=I.cellsCopy C;simp only[aP,Ch,CD]at hv;subst hv;have s:=cL (Tab.ok ok hs) rfl;have f:=l5 (Tab.ok ok hd) rfl;have l:=qp (Tab.ok ok F) rfl;have H:VT (.s k d 1 rows) (a.eval x):=G.v.2 0 _ _ rfl rfl;have J:=G.holds _ (Cj _);have u:=oE B;obtain⟨cs,R,Q,K⟩:=J.cells (by omega);have g:rows.length=xs.length:=by rw[u];simp
 have m:a.eval x = .slice d.addr rows.length d.cap:=H;rw[m];rcases K with⟨z,S⟩|⟨L,M,N⟩
 ·have t:xs=[]:=C1.1 (by rw[←g,z];rfl);subst t;rw[z];cases n:d.addr with
  |none=>exact run_convert_bytes_nil w c q s l 0 d.cap dst f
  |some ad =>
   have hsp:(convert c dst (.slice (some ad) 0 d.cap)).run P w = .ok (.string (strOfNums [])) w:=by obtain⟨b,o,sp⟩:=ad;rw[run_convert_bytes_string w c dst q _ 0 d.cap s l f];rw[run_bytesToString w ⟨b,o,sp⟩ 0 d.cap [] (run_loadCells_list w ⟨b,o,sp⟩ [] (fun j v h=>by simp at h))];rfl
   exact hsp
 ·have n:d.addr=some ⟨d.b,d.o,none⟩:=by rw[Dec.addr_none M,L];rfl
  rw[n];refine run_convert_bytes_arg w c q s l d.b d.o rows.length d.cap xs g.symm (fun i hi=>?_) dst f;have p:rows[i]?=some [.v (.int .u8 (xs.getD i 0))]:=by rw[u,B6,List.getD_eq_getElem?_getD,BW (by omega)];rfl
  obtain⟨y,A,O⟩:=R.val i _ 0 _ p rfl;rw[show y=_ from O.1]at A;have:=N (i*1+0) _ A;rw[show d.o+(i*1+0)=d.o+i by omega]at this;exact this
section
variable  {δ β : Type}
def da (s:Ej):List (List (T δ)):=s.data.toList.map fun b=>[.v (.int .u8 (b.toNat:Int))]
def dh (M:Mk δ β)(F:gz δ β)(tab:Tab)(D:St δ β)(dst:Option Nat)(a t:Nat)(x:Operand):Option (St δ β):=
 match tab.ti a,tab.ti t,dst,opd M.nil D x with
 |some ⟨_,_,_,.str⟩,some ⟨_,_,_,.slice e⟩,some d,some (.one (.v (.string s)))=>
  match tab.ti e with
  |some ⟨1,_,_,.int .u8⟩=>if d<D.length then some (av D (some d) (.one (.s .own (F.str s.size e) 1 (da s))))else none
  |_=>none
 |_,_,_,_=>none
end
theorem qT {P:Program}{tab:Tab}(ok:ax P tab){cx:Cx}{D D':DSt}{a:Act}{w:World}(I:Inv cx D [] a.tmps w){dst:Option Nat}{v t:Nat}{x:Operand}
  (e:dh mkD (frD w) tab D dst v t x=some D'):∃y w',(convert v t (a.eval x)).run P w = .ok y w'∧Inv cx D' [] (a.put dst y).tmps w':=by
 unfold dh at e;split at e
 case h_2=>cases e
 rename_i _ _ _ _ _ _ l d s hs H J;split at e
 case h_2=>cases e
 rename_i K;split at e
 case isFalse=>cases e
 rename_i hd;cases e;have L:=l5 (Tab.ok ok hs) rfl;have B:=cL (Tab.ok ok H) rfl;have C:=qp (Tab.ok ok K) rfl;have F:a.eval x = .string s:=(I.opd J).val.1;have f:=run_bytes_of_string (P:=P) w v t l s L B C;rw[←F]at f;have z:=grownCap_ge w s.size 0 l;have M:(frD w).str s.size l=⟨w.heap.size,0,grownCap w s.size 0 l,false,none⟩:=rfl;rw[M];generalize grownCap w s.size 0 l=p at f z;have m:(bytesRow s p).size=p:=by unfold bytesRow;have:s.data.size=s.size:=rfl;simp[this];omega
 have A:∀j (G:j<s.data.size),(bytesRow s p)[j]?=some (.int .u8 (s.data[j].toNat:Int)):=fun j G=>bytesRow_at s p j G
 generalize bytesRow s p=cells at f m A;have g:=(Grew.drew w).trans (Grew.alloc w.drew (.cells cells l (cells.size,cells.size+1)));have r:(w.drew.alloc (.cells cells l (cells.size,cells.size+1))).heap[w.heap.size]?=some (.cells cells l (cells.size,cells.size+1)):=by show(w.heap.push _)[w.heap.size]?=_;simp
 have c:∀(i:Nat)(row:List DT),(da s:List (List DT))[i]?=some row→∃h:i<s.data.size,row=[.v (.int .u8 (s.data[i].toNat:Int))]:=by
  intro i row h;unfold da at h;rw[B6,BS]at h;obtain⟨b,n,rfl⟩:=h;have hi:i<s.data.size:=by
   rcases BY i s.data.toList.length with q|q
   ·simpa using q
   ·rw[BV q]at n;cases n
  refine⟨hi,?_⟩;rw[BW (by simpa using hi)]at n;cases n;simp
 have o:(da s:List (List DT)).length=s.size:=by unfold da;simp
 have N:Holds (w.drew.alloc (.cells cells l (cells.size,cells.size+1))) (.s .own ⟨w.heap.size,0,p,false,none⟩ 1 (da s)):=by
  refine .s _ _ _ _ rfl rfl _ l _ r (by rw[o];exact z) (fun i row h=>?_) (fun i row j u n k=>?_) (fun i row j u n k=>?_)
  ·obtain⟨_,rfl⟩:=c i row h;rfl
  ·obtain⟨hi,rfl⟩:=c i row n;cases j with
   |zero =>simp only[CO,Ck]at k;subst k;exact⟨_,by simpa using A i hi,rfl,rfl⟩
   |succ j=>simp at k
  ·obtain⟨hi,rfl⟩:=c i row n;cases j with
   |zero=>simp only[CO,Ck]at k;subst k;exact .v _
   |succ j=>simp at k
 have O:OwnT (w.drew.alloc (.cells cells l (cells.size,cells.size+1))) (.s .own ⟨w.heap.size,0,p,false,none⟩ 1 (da s)):=by
  refine .s _ _ _ rfl rfl _ l _ _ r (by rw[o];exact z) (by simp[m]) (fun q n k h=>by simp at k;omega) (fun i row j u n k=>?_);obtain⟨hi,rfl⟩:=c i row n;cases j with
  |zero=>simp only[CO,Ck]at k;subst k;exact .v _
  |succ j=>simp at k
 refine⟨_,_,f,I.newRows (P:=[]) g (by simp) (d:=⟨w.heap.size,0,p,false,none⟩) ⟨rfl,rfl⟩ N O (fun b=>?_) hd (by simp[VT,Dec.addr,o])⟩;have:(da s:List (List DT)).flatMap (fun x=>x.flatMap Am.bl)=[]:=by rw[Ca];intro row Q;obtain⟨i,hi⟩:=BX Q;obtain⟨_,rfl⟩:=c i row hi;rfl
 rw[this];simp
section
variable  {δ β : Type}
def gN (D:St δ β)(x:Operand)(dst:Option Nat):Option (St δ β):=
 match x,dst with
 | .tmp t,some d =>
  match D[t]? with
  |some (.tup rs)=>if d<D.length∧(rs.all fun r=>r.2.all T.noLent)=true then some (av (D.set t .any) (some d) (.tup rs))else none
  |_=>none
 |_,_=>none
end
theorem rt:∀(us:List DT),(∀u∈us,∃v,VT u v)→∃a:List Value,us.length=a.length∧∀p∈us.zip a,p.1∈us∧VT p.1 p.2
 |[],_=>⟨[],rfl,fun p hp=>by cases hp⟩
 |u::us,h=>by
  obtain⟨v,hv⟩:=h u (by simp);obtain⟨a,c,b⟩:=rt us fun u d=>h u (by simp[d])
  refine⟨v::a,by simp[c],fun p hp=>?_⟩;rw[List.zip_cons_cons]at hp;rcases Cq.1 hp with rfl|hp
  ·exact⟨by simp,hv⟩
  ·exact⟨by simp[(b p hp).1],(b p hp).2⟩
theorem r8 {cx:Cx}{D D':DSt}{a:Act}{w:World}(I:Inv cx D [] a.tmps w){dst:Option Nat}{x:Operand}(e:gN D x dst=some D'):Inv cx D' [] (a.put dst (a.eval x)).tmps w:=by
 unfold gN at e;split at e
 case h_2=>cases e
 rename_i t d;split at e
 case h_2=>cases e
 rename_i rs hD;split at e
 case isFalse=>cases e
 rename_i hc;cases e;obtain⟨hd,C⟩:=hc;have g:=BR hD;have n:=I.val t _ hD;obtain⟨N,R,o,f⟩:=n;have F:=I.mem _ g;have l:∀u∈af (.tup rs:DSl),aB cx D u:=I.kind _ g;have O:∀u∈af (.tup rs:DSl),u.noLent=true:=by intro u c;obtain⟨r,G,c⟩:=B5.1 c;exact B2.1 (B2.1 C r G) u c
 have hv:∀u∈af (.tup rs:DSl),∃v,VT u v:=by
  intro u c;obtain⟨r,G,c⟩:=B5.1 c;obtain⟨j,H⟩:=BX G;have S:j<rs.length:=by
   rcases BY j rs.length with q|q
   ·exact q
   ·rw[BV q]at H;cases H
  have m:=f j r N.toList[j] H (BW (by omega));unfold VPart at m;split at m
  ·obtain⟨cs,i,B,U⟩:=m;obtain⟨k,l⟩:=BX c;have V:k<r.2.length:=by
    rcases BY k r.2.length with q|q
    ·exact q
    ·rw[BV q]at l;cases l
   exact⟨_,U k u _ l (BW (by omega))⟩
  ·obtain⟨t',i,B⟩:=m;rw[i,B4]at c;subst c;exact⟨_,B⟩
 obtain⟨J,W,hz⟩:=rt _ hv;have y:=ik _ J W;have hb:∀b,((af (.tup rs:DSl)).flatMap ownR).count b=(ownBl (.tup rs:DSl)).count b:=by intro b;show((rs.flatMap (·.2)).flatMap ownR).count b=(rs.flatMap fun r=>r.2.flatMap ownR).count b;rw[List.flatMap_assoc]
 have X:=I.swap (Q:=(af (.tup rs:DSl)).zip J) (s := .any) hD (fun s' A=>by obtain⟨u,c⟩:=BX A;exact I.tup_refs hD (I.val u s' c) (I.kind s' A)) (fun h=>h) trivial
  ⟨fun u c=>(by cases c),fun u c=>(by cases c),trivial⟩ (fun u c=>(by cases c))
  (fun p m=>by
   obtain⟨i,B⟩:=hz p m;refine⟨B,F.1 _ i,F.2.1 _ i,fun Y x K=>?_⟩;have L:=l _ i;have M:=O _ i;generalize p.1=u at *;cases u with
   |v x=>simp[bl]at K
   |any=>simp[bl]at K
   |s k d z r=>cases k<;>first|exact L x K|(cases M;done)|(cases Y;done))
  (fun b=>by rw[y b,hb b,a6];show([]:List Nat).count b+_≤_;simp)
 exact Inv.put (P:=(af (.tup rs:DSl)).zip J) (Q:=[]) (by rw[Cp];exact X) (by simpa using hd) (s := .tup rs) ⟨N,R,o,f⟩ F (fun u c=>iL (O u c) (l u c)) (fun b=>by rw[y b,hb b];exact Cz _)
section
variable  {δ β : Type}
def ef (M:Mk δ β)(F:gz δ β)(tab:Tab)(D:St δ β)(dst:Option Nat)(t len:Nat)(a:List (Nat×Operand)):Option (St δ β):=
 match tab.ti t,dst,a with
 |some ⟨_,_,_,.slice e⟩,some d,[(0,x)]=>
  match tab.ti e,cellsTake M D x with
  |some b,some (_,us,D1)=>
   if len=1∧d<D1.length∧b.size≠0∧b.zero.length=b.size∧b.size≤2 ^ 24∧us.length=b.size∧us.all (fun u=>u.isOwn ||u.flat)=true then
    some (av D1 (some d) (.one (.s .own (F.row 1) b.size [us])))
   else none
  |_,_=>none
 |_,_,_=>none
def iw (M:Mk δ β)(tab:Tab)(D:St δ β)(t:Nat)(p:Operand)(z:Nat):Option (St δ β):=
 match tab.ti t with
 |some ti=>if ti.size=1 then(opd M.nil D p).bind fun p=>du D p [.s .own M.nil z []]else none
 |none=>none
end
theorem uX {w:World}{u:DT}(h:(u.isOwn ||u.flat)=true)(b:u.isOwn=true→OwnT w u):OwnT w u∧ownR u=bl u:=by
 cases a:u.isOwn with
 |true=>exact⟨b a,by simp[ownR,a]⟩
 |false =>rw[a,Bool.false_or]at h;exact⟨(ta h).1,by simp[ownR,a,vq h]⟩
theorem nY {P:Program}{tab:Tab}(ok:ax P tab){cx:Cx}{D D':DSt}{a:Act}{w:World}(I:Inv cx D [] a.tmps w){dst:Option Nat}{t len:Nat}{f:Array (Nat×Operand)}
  (e:ef mkD (frD w) tab D dst t len f.toList=some D'):∃y w',(Instr.buildSlice t len (f.map fun(i,x)=>(i,a.eval x))).run P w = .ok y w'∧Inv cx D' [] (a.put dst y).tmps w':=by
 unfold ef at e;split at e
 case h_2=>cases e
 rename_i sz Z ze l d x K m;split at e
 case h_2=>cases e
 rename_i c gg us D1 A hx;split at e
 case isFalse=>cases e
 rename_i hc;cases e;obtain⟨rfl,hd,L,M,Q,B,C⟩:=hc;obtain⟨ys,Pd,I1,G,hv⟩:=I.cellsTake hx;have s:=cL (Tab.ok ok K) rfl;obtain⟨z,g1,S,g3⟩:=l6 (Tab.ok ok A) w;have hs:=fN (Tab.ok ok A) w;have U:=em (P:=P) (t:=l) (w:=w) (cx:=cx) (D:=D) (ys:=z.cells.toList) g3;rw[←S]at U;have F:z.cells.size=c.size:=by rw[←M,S];simp[bG]
 have V:=RowsAre.init U.v (by omega) 1;rw[F]at V;have n:=eF G hv;obtain⟨N,R⟩:=V.set (i:=0) (by simp) G.v B;have e2:=G.v.1;have r:(List.replicate 1 (c.zero.map (T.inj nilD))).set 0 us=[us]:=rfl;rw[r]at R;have f1:Instr.fill (fun i=>some (i*c.size,c.size)) ((Array.range (1*c.size)).map fun i=>z.cells[i % c.size]!) [(0,a.eval x)]=some (am ((Array.range (1*c.size)).map fun i=>z.cells[i % c.size]!).toList (0*c.size) ys).toArray:=by simp only[Instr.fill,n];rw[Cd (by simp;omega)];have h3:=cD ys.toArray (0*c.size) ((Array.range (1*c.size)).map fun i=>z.cells[i % c.size]!) (by simpa using N);rw[h3]
 generalize W:am ((Array.range (1*c.size)).map fun i=>z.cells[i % c.size]!).toList (0*c.size) ys=k at *;have H:(Instr.buildSlice t 1 (f.map fun(i,x)=>(i,a.eval x))).run P w = .ok (.slice (some ⟨w.heap.size,0,none⟩) 1 1) (w.alloc (.cells k.toArray l)):=by
  have O:Instr.fill (fun i=>some (i*c.size,c.size)) ((Array.range (1*c.size)).map fun i=>z.cells[i % c.size]!) (f.toList.map fun p=>(p.1,a.eval p.2))=some k.toArray:=by rw[m];exact f1
  simp only[Instr.buildSlice,run_underlying s,Sem.run_bind,Result.andThen_ok,hs];rw[Cd (by omega)];simp[g1,F];have J:=O;rw[Nat.one_mul]at J;simp[J,L,es]
 have g:=Grew.alloc w (.cells k.toArray l);have o:(w.alloc (.cells k.toArray l)).heap[w.heap.size]?=some (.cells k.toArray l (0,0)):=by show(w.heap.push _)[w.heap.size]?=_;simp
 have q:∀(i:Nat)(row:List DT)(j:Nat)(u:DT),[us][i]?=some row→row[j]?=some u→u∈us:=fun i row j u hi hj=>by
  have:row=us:=by have:=BR hi;simpa using this
  subst this;exact BR hj
 have X:∀u∈us,OwnT w u∧ownR u=bl u:=fun u s=>uX (B2.1 C u s) (G.own u s)
 have hH:Holds (w.alloc (.cells k.toArray l)) (.s .own ((frD w).row 1) c.size [us]):=by refine .s _ _ _ _ rfl rfl _ l (0,0) o (by simp[frD]) R.row (fun i row j t hi hj=>?_) (fun i row j t hi hj=>(G.holds t (q i row j t hi hj)).frame fun b _ hb=>g.same b hb);obtain⟨y,y1,y2⟩:=R.val i row j t hi hj;exact⟨y,by simpa[frD]using y1,y2⟩
 have hO:OwnT (w.alloc (.cells k.toArray l)) (.s .own ((frD w).row 1) c.size [us]):=by refine .s _ _ _ rfl rfl _ l 0 0 o (by simp[frD]) (by simp[frD,R.len]) (fun x _ _ h=>by omega) (fun i row j t hi hj=>?_);exact((X t (q i row j t hi hj)).1).frame fun b _ hb=>g.same b hb
 refine⟨_,_,H,I1.newRows (P:=Pd) g (by simp) (d:=(frD w).row 1) ⟨rfl,rfl⟩ hH hO (fun b=>?_) hd (by simp[VT,Dec.addr,frD])⟩;have Y:=G.cnt b;have h2:us.flatMap ownR=us.flatMap bl:=by rw[DL,DL,Cl fun u s=>(X u s).2]
 rw[h2]at Y;simpa using Y
theorem qS {P:Program}{tab:Tab}(ok:ax P tab){cx:Cx}{D D':DSt}{a:Act}{w:World}(I:Inv cx D [] a.tmps w){t:Nat}{p:Operand}{z:Nat}
  (e:iw mkD tab D t p z=some D'):∃w',(Instr.storeAt t (a.eval p) (.slice none 0 0)).run P w = .ok () w'∧Inv cx D' [] a.tmps w':=by
 unfold iw at e;split at e
 case h_2=>cases e
 rename_i ti d;split at e
 case isFalse=>cases e
 rename_i f;rw[BT]at e;obtain⟨i,h,e⟩:=e;refine ry (g:=false) ok I d (ys:=[.slice none 0 0]) ⟨.one ?_,fun u c=>?_,fun u c _=>?_,fun u c=>?_,fun b=>?_⟩ (by simp[aP]) (by simp[f]) h e
 ·simp[VT,Dec.addr,mkD,nilD]
 ·rw[B4]at c;subst c;exact .e _ _ _
 ·rw[B4]at c;subst c;exact .nil _ _ rfl rfl rfl
 ·rw[B4]at c;subst c;trivial
 ·simp[ownR,T.isOwn,bv,mkD,nilD]
section
variable  {δ β : Type}
def iQ (M:Mk δ β)(tab:Tab)(D:St δ β)(dst:Option Nat)(t:Nat)(a:List (Nat×Operand)):Option (St δ β):=
 match tab.ti t,tab.pl t,a,dst with
 |some ti,some pl,(i,x)::r,some d =>
  match pl[i]?,cellsTake M D x with
  |some (off,size),some (_,us,D1)=>
   if us.length=size∧off+us.length≤(ti.zero.map (T.inj M.nil)).length∧d<D1.length then
    (aZ M D1 pl r (am (ti.zero.map (T.inj M.nil)) off us)).map fun ts=>av D1 (some d) (.agg ts)
   else none
  |_,_=>none
 |_,_,_,_=>none
end
theorem Got.spliceP {cx:Cx}{D:DSt}{w:World}{P Q:List (DT×Value)}{ts us:List DT}{xs ys:List Value}(G:Got cx D w P ts xs)(H:Got cx D w Q us ys){off:Nat}(c:off+us.length≤ts.length):
  Got cx D w (P++Q) (am ts off us) (am xs off ys):=by
 refine⟨G.v.splice H.v c,fun t a=>?_,fun t a=>?_,fun t a=>?_,fun b=>?_⟩
 ·rcases cG a with h|h
  ·exact G.holds t h
  ·exact H.holds t h
 ·rcases cG a with h|h
  ·exact G.own t h
  ·exact H.own t h
 ·rcases cG a with h|h
  ·exact G.kind t h
  ·exact H.kind t h
 ·have d:=iS ownR ts us off b;have e:=G.cnt b;have f:=H.cnt b;rw[de];omega
theorem eA {cx:Cx}{D:DSt}{h P:List (DT×Value)}{a:Act}{w:World}(I:Inv cx D h a.tmps w)(pl:List (Nat×Nat)):∀(b:List (Nat×Operand)){ts ts':List DT}{xs:List Value},Got cx D w P ts xs →
  aZ mkD D pl b ts=some ts'→∃ys,Instr.fill (pl.toArray[·]?) xs.toArray (b.map fun p=>(p.1,a.eval p.2))=some ys.toArray∧Got cx D w P ts' ys
 |[],ts,ts',xs,G,e=>by cases e;exact⟨xs,rfl,G⟩
 |(i,x)::r,ts,ts',xs,G,e=>by
  simp only[aZ]at e;split at e
  case h_2=>cases e
  rename_i off size g us j hc;split at e
  case isFalse=>cases e
  rename_i k;obtain⟨ys,H,hv⟩:=I.cellsCopy hc;have c:=eF H hv;have f:=G.spliceP H k.2;rw[Cp]at f;obtain⟨l,m,n⟩:=eA I pl r f e;refine⟨l,?_,n⟩;have o:=G.v.1;have q:=H.v.1;have d:pl.toArray[i]?=some (off,size):=by simpa using j
  simp only[Cc,Instr.fill,d,c];rw[Cd (by simp;omega)];rw[cD ys.toArray off xs.toArray (by simp;omega)];simpa using m
theorem sK {P:Program}{tab:Tab}(ok:ax P tab){cx:Cx}{D D':DSt}{a:Act}{w:World}(I:Inv cx D [] a.tmps w){dst:Option Nat}{t:Nat}{b:Array (Nat×Operand)}(e:iQ mkD tab D dst t b.toList=some D'):
  ∃y,(Instr.build t (b.map fun(i,x)=>(i,a.eval x))).run P w = .ok y w∧Inv cx D' [] (a.put dst y).tmps w:=by
 unfold iQ at e;split at e
 case h_2=>cases e
 rename_i ti pl i x r d m n c;split at e
 case h_2=>cases e
 rename_i off size V us D1 B C;split at e
 case isFalse=>cases e
 rename_i hc;rw[BS]at e;obtain⟨ts,F,rfl⟩:=e;obtain⟨J,l,hd⟩:=hc;obtain⟨ys,W,q,H,hv⟩:=I.cellsTake C;obtain⟨X,Y,z,K,Z,L,g4,g5,M,g7,N⟩:=cO (Tab.ok ok m);have G:=em (P:=P) (t:=t) (w:=w) (cx:=cx) (D:=D1) (ys:=z.cells.toList) N;rw[←M]at G;have u:=G.spliceP H l;rw[Co]at u;obtain⟨A,O,Q⟩:=eA q pl r u F;have f:=eF H hv;have k:Instr.fill (pl.toArray[·]?) z.cells.toList.toArray (b.toList.map fun p=>(p.1,a.eval p.2))=some A.toArray:=by
  rw[c];have R:z.cells.toList.length=z.cells.size:=by simp
  have S:(ti.zero.map (T.inj mkD.nil)).length=z.cells.size:=by rw[←R];exact G.v.1
  have e2:=H.v.1;rw[S]at l;have o:pl.toArray[i]?=some (off,size):=by simpa using B
  simp only[Cc,Instr.fill,o,f];rw[Cd (by simp;omega)];rw[cD ys.toArray off z.cells.toList.toArray (by simp;omega)];simpa using O
 refine⟨.agg A.toArray,run_build w t _ _ ?_,?_⟩
 ·have j:=Tab.okPl ok n;unfold iv at j;split at j
  ·rename_i fs U;unfold Program.built;rw[K,U];simp only[L,j];simpa using k
  ·cases j
 ·exact q.putGot (g:=true) (s := .agg ts) Q (by simp[aP]) rfl (fun t' h=>by cases h;exact hd) rfl
section
variable  {δ β : Type}
def dT (D:St δ β):Operand→Bool
 | .tmp t=>match D[t]? with|some s=>s.isHome|none=>false
 |_=>false
def kj (M:Mk δ β)(tab:Tab)(D:St δ β)(dst:Option Nat)(t:Nat)(a:List (Nat×Operand)):Option (St δ β):=
 match tab.ti t,tab.pl t,a.dropWhile (fun p => !dT D p.2),dst with
 |some ti,some pl,(i,x)::r,some d =>
  match pl[i]?,cellsTake M D x,aZ M D pl (a.takeWhile (fun p => !dT D p.2)) (ti.zero.map (T.inj M.nil))with
  |some (off,size),some (_,us,D1),some ts0 =>
   if us.length=size∧off+us.length≤ts0.length∧d<D1.length∧ts0.all T.noLent=true then
    (aZ M D1 pl r (am ts0 off us)).map fun ts=>av D1 (some d) (.agg ts)
   else none
  |_,_,_=>none
 |_,_,_,_=>none
def gP (M:Mk δ β)(pl:List (Nat×Nat)):List (Nat×Operand)→St δ β→List (T δ)→Option (List (T δ)×St δ β)
 |[],D,ts=>some (ts,D)
 |(i,x)::r,D,ts =>
  match pl[i]? with
  |some (off,size)=>
   if dT D x=true then
    match cellsTake M D x with
    |some (_,us,D1)=>if us.length=size∧off+us.length≤ts.length∧us.all T.noLent=true then gP M pl r D1 (am ts off us)else none
    |none=>none
   else
    match cellsCopy M D x with
    |some (_,us)=>if us.length=size∧off+us.length≤ts.length∧us.all T.noLent=true then gP M pl r D (am ts off us)else none
    |none=>none
  |none=>none
def lF (M:Mk δ β)(tab:Tab)(D:St δ β)(dst:Option Nat)(t:Nat)(a:List (Nat×Operand)):Option (St δ β):=
 match tab.ti t,tab.pl t,dst with
 |some ti,some pl,some d =>
  if(ti.zero.map (T.inj M.nil)).all T.noLent=true then
   match gP M pl a D (ti.zero.map (T.inj M.nil))with
   |some (ts,D')=>if d<D'.length then some (av D' (some d) (.agg ts))else none
   |none=>none
  else none
 |_,_,_=>none
def nW (D:St δ β)(a:List (Nat×Operand)):Bool:=decide (2≤(a.filter fun p=>dT D p.2).length)
def iz (M:Mk δ β)(tab:Tab)(D:St δ β)(dst:Option Nat)(t:Nat)(a:List (Nat×Operand)):Option (St δ β):=
 if nW D a=true then lF M tab D dst t a
 else match iQ M tab D dst t a with
 |some r=>some r
 |none=>kj M tab D dst t a
theorem sJ {M:Mk δ β}{tab:Tab}{D r:St δ β}{dst:Option Nat}{t:Nat}{a:List (Nat×Operand)}(b:nW D a=false)(h:iQ M tab D dst t a=some r):iz M tab D dst t a=some r:=by unfold iz;rw[Cd (by rw[b];exact CF),h]
end
theorem ox {pl:Nat→Option (Nat×Nat)}:∀(b a:List (Nat×Value))(xs ys:Array Value),Instr.fill pl xs b=some ys→Instr.fill pl xs (b++a)=Instr.fill pl ys a
 |[],a,xs,ys,h=>by simp only[Instr.fill]at h;cases h;rfl
 |(i,v)::b,a,xs,ys,h=>by
  rw[List.cons_append];unfold Instr.fill at h
  conv=>lhs;unfold Instr.fill
  cases c:pl i with
  |none=>rw[c]at h;cases h
  |some os =>
   obtain⟨off,size⟩:=os;rw[c]at h;simp only at h ⊢;split at h
   ·cases h
   ·rename_i hc;rw[Cd hc];exact ox b a _ ys h
theorem rI {P:Program}{tab:Tab}(ok:ax P tab){cx:Cx}{D D':DSt}{a:Act}{w:World}(I:Inv cx D [] a.tmps w){dst:Option Nat}{t:Nat}{b:Array (Nat×Operand)}(e:kj mkD tab D dst t b.toList=some D'):
  ∃y,(Instr.build t (b.map fun(i,x)=>(i,a.eval x))).run P w = .ok y w∧Inv cx D' [] (a.put dst y).tmps w:=by
 unfold kj at e;split at e
 case h_2=>cases e
 rename_i ti pl i x r d u A c;split at e
 case h_2=>cases e
 rename_i off size gg us D1 ts0 N O m;split at e
 case isFalse=>cases e
 rename_i hc;rw[BS]at e;obtain⟨ts,Q,rfl⟩:=e;obtain⟨R,n,hd,B⟩:=hc;obtain⟨ys,Pd,J,H,hv⟩:=I.cellsTake O;obtain⟨i',dd,z,S,g2,U,g4,g5,V,g7,W⟩:=cO (Tab.ok ok u);have G:=em (P:=P) (t:=t) (w:=w) (cx:=cx) (D:=D) (ys:=z.cells.toList) W;rw[←V]at G;obtain⟨o,C,l⟩:=eA I pl _ G m;have X:Got cx D1 w [] ts0 o:=⟨l.v,l.holds,l.own,fun t K=>iL (B2.1 B t K) (l.kind t K),l.cnt⟩
 have L:=X.spliceP H n;rw[Co]at L;obtain⟨M,Y,Z⟩:=eA J pl r L Q;have f:=eF H hv;have q:b.toList=b.toList.takeWhile (fun p => !dT D p.2)++(i,x)::r:=by rw[←c];exact(List.takeWhile_append_dropWhile).symm
 have k:Instr.fill (pl.toArray[·]?) z.cells.toList.toArray (b.toList.map fun p=>(p.1,a.eval p.2))=some M.toArray:=by
  rw[q,Dh,ox _ _ _ _ C];have e1:=l.v.1;have e2:=H.v.1;rw[e1]at n;have F:pl.toArray[i]?=some (off,size):=by simpa using N
  simp only[Cc,Instr.fill,F,f];rw[Cd (by simp;omega)];rw[cD ys.toArray off o.toArray (by simp;omega)];simpa using Y
 refine⟨.agg M.toArray,run_build w t _ _ ?_,?_⟩
 ·have j:=Tab.okPl ok A;unfold iv at j;split at j
  ·rename_i fs hu;unfold Program.built;rw[S,hu];simp only[U,j];simpa using k
  ·cases j
 ·exact J.putGot (g:=true) (s := .agg ts) Z (by simp[aP]) rfl (fun t' h=>by cases h;exact hd) rfl
theorem m7 {cx:Cx}{a:Act}{w:World}(pl:List (Nat×Nat)):∀(c:List (Nat×Operand)){D D':DSt}{P:List (DT×Value)}{ts ts':List DT}{xs:List Value},Inv cx D P a.tmps w→Got cx D w P ts xs→(∀t∈ts,t.noLent=true) →
  gP mkD pl c D ts=some (ts',D')→∃P' ys,Inv cx D' P' a.tmps w∧Got cx D' w P' ts' ys∧Instr.fill (pl.toArray[·]?) xs.toArray (c.map fun p=>(p.1,a.eval p.2))=some ys.toArray
 |[],D,D',P,ts,ts',xs,I,G,m,e=>by cases e;exact⟨P,xs,I,G,rfl⟩
 |(i,x)::r,D,D',P,ts,ts',xs,I,G,m,e=>by
  have h:∀{off size:Nat}{g:Bool}{us:List DT}{D1:DSt}{Q:List (DT×Value)}{ys:List Value},pl[i]?=some (off,size)→Inv cx D1 (Q++P) a.tmps w→Got cx D1 w Q us ys→aP g (a.eval x) ys →
    us.length=size∧off+us.length≤ts.length∧us.all T.noLent=true→gP mkD pl r D1 (am ts off us)=some (ts',D') →
    ∃P' ys,Inv cx D' P' a.tmps w∧Got cx D' w P' ts' ys∧Instr.fill (pl.toArray[·]?) xs.toArray (((i,x)::r).map fun p=>(p.1,a.eval p.2))=some ys.toArray:=fun {off size g us D1 Q ys} k n H hv f e=>by
   have d:=eF H hv;have y:Got cx D1 w P ts xs:=⟨G.v,G.holds,G.own,fun t l=>iL (m t l) (G.kind t l),G.cnt⟩
   have j:=y.spliceP H f.2.1;have z:Got cx D1 w (Q++P) (am ts off us) (am xs off ys):=⟨j.v,j.holds,j.own,j.kind,fun b=>by have:=j.cnt b;rw[de]at this ⊢;omega⟩
   have o:∀t∈am ts off us,t.noLent=true:=fun t l=>(cG l).elim (m t) fun q=>B2.1 f.2.2 t q
   obtain⟨P',A,B,C,F⟩:=m7 pl r n z o e;refine⟨P',A,B,C,?_⟩;have J:=G.v.1;have K:=H.v.1;have s:pl.toArray[i]?=some (off,size):=by simpa using k
   simp only[Cc,Instr.fill,s,d];rw[Cd (by simp;omega)];rw[cD ys.toArray off xs.toArray (by simp;omega)];simpa using F
  simp only[gP]at e;split at e
  case h_2=>cases e
  rename_i off size k;split at e
  ·split at e
   case h_2=>cases e
   rename_i g us D1 u;split at e
   case isFalse=>cases e
   rename_i f;obtain⟨ys,Q,n,H,hv⟩:=I.cellsTakeP u;exact h k n H hv f e
  ·split at e
   case h_2=>cases e
   rename_i g us u;split at e
   case isFalse=>cases e
   rename_i f;obtain⟨ys,H,hv⟩:=I.cellsCopy u;exact h (Q:=[]) k I H hv f e
theorem sI {P:Program}{tab:Tab}(ok:ax P tab){cx:Cx}{D D':DSt}{a:Act}{w:World}(I:Inv cx D [] a.tmps w){dst:Option Nat}{t:Nat}{b:Array (Nat×Operand)}(e:lF mkD tab D dst t b.toList=some D'):
  ∃y,(Instr.build t (b.map fun(i,x)=>(i,a.eval x))).run P w = .ok y w∧Inv cx D' [] (a.put dst y).tmps w:=by
 unfold lF at e;split at e
 case h_2=>cases e
 rename_i ti pl d j k;split at e
 case isFalse=>cases e
 rename_i l;split at e
 case h_2=>cases e
 rename_i ts D1 n;split at e
 case isFalse=>cases e
 rename_i hd;cases e;obtain⟨H,J,z,o,K,q,L,M,r,N,u⟩:=cO (Tab.ok ok j);have G:=em (P:=P) (t:=t) (w:=w) (cx:=cx) (D:=D) (ys:=z.cells.toList) u;rw[←r]at G;obtain⟨P',m,v,A,B⟩:=m7 pl b.toList I G (fun t C=>B2.1 l t C) n;have f:Instr.fill (pl.toArray[·]?) z.cells.toList.toArray (b.toList.map fun p=>(p.1,a.eval p.2))=some m.toArray:=B;refine⟨.agg m.toArray,run_build w t _ _ ?_,?_⟩
 ·have c:=Tab.okPl ok k;unfold iv at c;split at c
  ·rename_i fs F;unfold Program.built;rw[o,F];simp only[q,c];simpa using f
  ·cases c
 ·exact v.putGot (g:=true) (s := .agg ts) A (by simp[aP]) rfl (fun t' h=>by cases h;exact hd) rfl
theorem rJ {P:Program}{tab:Tab}(ok:ax P tab){cx:Cx}{D D':DSt}{a:Act}{w:World}(I:Inv cx D [] a.tmps w){dst:Option Nat}{t:Nat}{b:Array (Nat×Operand)}(e:iz mkD tab D dst t b.toList=some D'):
  ∃y,(Instr.build t (b.map fun(i,x)=>(i,a.eval x))).run P w = .ok y w∧Inv cx D' [] (a.put dst y).tmps w:=by
 unfold iz at e;split at e
 ·exact sI ok I e
 split at e
 ·rename_i r h;cases e;exact sK ok I h
 ·exact rI ok I e
section
section
variable  {δ β : Type}
def putA (D:St δ β)(t:Nat)(x:Sl δ β):St δ β :=
 match D[t]? with
 |some .any=>D.set t x
 |_=>av D (some t) x
def bY (D:St δ β)(dst:Option Nat)(x:Sl δ β):Option (St δ β):=
 match dst with
 |none=>some D
 |some t=>if t<D.length then some (putA D t x)else none
def fc (M:Mk δ β)(tab:Tab)(D:St δ β)(t:Nat)(x:Operand):Option (Bool×List (T δ)×St δ β):=
 match tab.ti t,opd M.nil D x with
 |some ti,some (.pb h 0)=>
  match D[h]? with
  |some (.box _ ts)=>if ts.length=ti.size∧ti.sh ≠ .other∧ti.sh.agg=true∧ts.all T.noLent=true then some (true,ts,au h D)else none
  |_=>none
 |_,_=>none
def jT (tab:Tab)(ty:Nat)(x:Operand):Option Nat :=
 match x with
 | .const (.slice none 0 0)=>match tab.ti ty with|some ⟨_,_,_,.slice e⟩=>(tab.ti e).map (·.size)|_=>none
 |_=>none
def dV (D:St δ β)(x:Operand):Option (List (Bool×List (T δ))):=
 match x with
 | .tmp t=>match D[t]? with|some (.tup rs)=>if(rs.all fun r=>r.2.all T.flat)=true∧rs≠[]then some rs else none|_=>none
 |_=>none
def lC (c:Call):Option (Nat×Nat×Operand×Operand):=
 match c.callee,c.args.toList,c.argTypes.toList with
 | .builtin .append,[s,x],[t,a]=>some (t,a,s,x)
 |_,_,_=>none
def bn (M:Mk δ β)(F:gz δ β)(tab:Tab)(D:St δ β)(o:Oper)(tk:Bool):Option (St δ β):=
 match o.op with
 | .store t p x=>match o.dst with
  |none=>(match jT tab t x with|some z=>iw M tab D t p z|none=>iJ M tab D t p x tk)
  |some _=>none
 | .alloc t=>iy M F tab D o.dst t
 | .box _ x=>nT M F D o.dst x tk
 | .move x=>match jT tab o.type x with
  |some z=>bY D o.dst (.one (.s .own M.nil z []))
  |none=>match dV D x with
  |some rs=>bY D o.dst (.tup rs)
  |none=>match(if tk then gN D x o.dst else none)with
  |some D'=>some D'
  |none=>if tk then(cellsTake M D x).bind fun r=>match o.dst with|some t=>if t<r.2.2.length then(cU r.1 r.2.1).map fun s=>av r.2.2 (some t) s else none|none=>none
   else(aR M tab D o.op).bind fun s=>bY D o.dst s
 | .assign x=>match jT tab o.type x with
  |some z=>bY D o.dst (.one (.s .own M.nil z []))
  |none=>if tk then(cellsTake M D x).bind fun r=>match o.dst with|some t=>if t<r.2.2.length then(cU r.1 r.2.1).map fun s=>av r.2.2 (some t) s else none|none=>none
   else(aR M tab D o.op).bind fun s=>bY D o.dst s
 | .load t x=>if tk then(fc M tab D t x).bind fun r=>match o.dst with|some t=>if t<r.2.2.length then(cU r.1 r.2.1).map fun s=>av r.2.2 (some t) s else none|none=>none
   else(aR M tab D o.op).bind fun s=>bY D o.dst s
 | .extract x i=>iD D o.dst x i
 | .makeFunc fn first caps=>match fn with| .func f=>if first.toList=[]then(mh D f caps.toList).bind fun s=>bY D o.dst s else none|_=>none
 | .buildSlice t len a=>if tk then ef M F tab D o.dst t len a.toList else b9 M F tab D o.dst t len a.toList
 | .makeSlice t l c=>cd M F tab D o.dst t l c
 | .call c=>match lC c with
  |some (t,d,s,x)=>gd M F tab D o.dst t d s x
  |none=>(aR M tab D o.op).bind fun s=>bY D o.dst s
 | .convert b dst x=>match ge M tab D b dst x with
  |some rows=>(ce rows).bind fun xs=>bY D o.dst (.one (.v (.string (strOfNums xs))))
  |none=>match dh M F tab D o.dst b dst x with
  |some D'=>some D'
  |none=>(aR M tab D o.op).bind fun s=>bY D o.dst s
 | .build t a=>if tk then iz M tab D o.dst t a.toList else(gB M tab D t a.toList).bind fun s=>bY D o.dst s
 |op=>(aR M tab D op).bind fun s=>bY D o.dst s
end
theorem Inv.any_refs {cx:Cx}{D:DSt}{P:List (DT×Value)}{tm:Array Value}{w:World}(I:Inv cx D P tm w){t:Nat}(q:D[t]?=some .any){s:DSl}{y:Value}(hv:VS D s y)(v:bZ cx D s):¬bd t s:=by
 have hc:∀c,ah D t c=none:=fun c=>by simp[ah,q,ap]
 have j:∀(us:List DT),(∀u∈us,aB cx D u)→¬ ∃u∈us,∃c o d z r,u = .s (.lent t c o) d z r:=by
  rintro us h ⟨u,x,c,o,d,z,r,rfl⟩;rcases h _ x with⟨l,_⟩|⟨t',l,_⟩
  ·exact lN q l
  rw[hc]at l;cases l
 intro m;cases s with
 |any=>exact m
 |one u=>obtain⟨c,o,d,z,r,rfl⟩:=m;exact j [_] (fun u x=>v u (by simpa[af]using x)) ⟨_,Cj _,c,o,d,z,r,rfl⟩
 |agg ts=>exact j ts v m
 |box b ts=>exact j ts v m
 |al h c st lo len =>simp only[bd]at m;subst m;obtain⟨d,z,n,a,⟨t',l,_⟩,_⟩:=hv;rw[hc]at l;cases l
 |pe h c st i off =>simp only[bd]at m;subst m;obtain⟨d,z,n,⟨t',l,_⟩,_⟩:=hv;rw[hc]at l;cases l
 |pb h off =>simp only[bd]at m;subst m;obtain⟨b,ts,l,_⟩:=hv;rw[q]at l;cases l
 |im k b ts off =>
  cases k with
  |own=>exact m
  |far=>exact m
  |lent h c o =>
   simp only[bd]at m;subst m;rcases v with⟨l,_⟩|⟨t',l,_⟩
   ·exact lN q l
   rw[hc]at l;cases l
 |fni f caps=>exact m
 |clo f hs =>
  obtain⟨B,l,C,_⟩:=hv;obtain⟨i,hi⟩:=BX m;obtain⟨b,hb⟩:∃b,B[i]?=some b:=by
   have:i<hs.length:=by
    rcases BY i hs.length with g|g
    ·exact g
    ·rw[BV g]at hi;cases hi
   exact⟨_,BW (by omega)⟩
  obtain⟨ts,A⟩:=C i t b hi hb;rw[q]at A;cases A
 |tup rs =>obtain⟨p,F,u,x,c,o,d,z,r,e⟩:=m;exact j (af (.tup rs)) v ⟨u,B5.2 ⟨p,F,x⟩,c,o,d,z,r,e⟩
theorem Inv.putA {cx:Cx}{D:DSt}{a:Act}{w:World}(I:Inv cx D [] a.tmps w){t:Nat}{s:DSl}{y:Value}(f:t<D.length)(h:Tells cx D w s y):Inv cx (putA D t s) [] (a.put (some t) y).tmps w:=by
 have c:∀b,(ownBl s).count b≤aq [] b:=by intro b;have:ownBl s=[]:=h.noown;rw[this];simp[aq]
 unfold Am.putA;split
 ·rename_i e;exact Inv.fill (P:=[]) (Q:=[]) (by simpa using I) e (fun s' d=>by obtain⟨u,g⟩:=BX d;exact I.any_refs e (I.val u s' g) (I.kind s' d)) (I.any_refs e h.val h.kind) h.val h.mem h.kind c
 ·exact Inv.put (P:=[]) (Q:=[]) (by simpa using I) f h.val h.mem h.kind c
variable  {P : Program}{tab : Tab}
inductive pr (cx:Cx)(D':DSt)(a:Act)(o:Oper)(w':World):Next→Prop where|value (y:Value) (h:Inv cx D' [] (a.put o.dst y).tmps w'):pr cx D' a o w' (.value y)|skip (hd:o.dst=none) (h:Inv cx D' [] a.tmps w'):pr cx D' a o w' .skip
theorem gD (ok:ax P tab){cx:Cx}{D D':DSt}{a:Act}{w:World}(I:Inv cx D [] a.tmps w){o:Oper}(e:((aR mkD tab D o.op).bind fun s=>bY D o.dst s)=some D'):
  ∃c w',(execOp a.eval o).run P w = .ok c w'∧pr cx D' a o w' c:=by
 rw[BT]at e;obtain⟨s,d,b⟩:=e;obtain⟨y,f,g⟩:=jx ok I d;refine⟨_,w,f,.value y ?_⟩;unfold bY at b;split at b
 ·rename_i hd;cases b;rw[hd];exact I
 ·rename_i t hd;split at b
  ·cases b;rw[hd];exact I.putA ‹_› g
  ·cases b
theorem jq {cx:Cx}{D D':DSt}{a:Act}{w:World}(I:Inv cx D [] a.tmps w){o:Oper}{s:DSl}{y:Value}(c:Tells cx D w s y)(b:bY D o.dst s=some D'):pr cx D' a o w (.value y):=by
 refine .value y ?_;unfold bY at b;split at b
 ·rename_i hd;cases b;rw[hd];exact I
 ·rename_i t hd;split at b
  ·cases b;rw[hd];exact I.putA ‹_› c
  ·cases b
theorem rz {cx:Cx}{D D':DSt}{a:Act}{w:World}(I:Inv cx D [] a.tmps w){x:Operand}{dst:Option Nat}
  (e:((cellsTake mkD D x).bind fun r=>match dst with|some t=>if t<r.2.2.length then(cU r.1 r.2.1).map fun s=>av r.2.2 (some t) s else none|none=>none)=some D'):
  Inv cx D' [] (a.put dst (a.eval x)).tmps w:=by
 rw[BT]at e;obtain⟨⟨g,us,D1⟩,c,b⟩:=e;obtain⟨ys,i,d,G,hv⟩:=I.cellsTake c;simp only at b;split at b
 ·rename_i t;split at b
  ·rename_i f;rw[BS]at b;obtain⟨s,hs,rfl⟩:=b;exact d.putGot G hv hs (fun t' h=>by cases h;exact f) rfl
  ·cases b
 ·cases b
theorem rW (ok:ax P tab){cx:Cx}{D D':DSt}{a:Act}{w:World}(I:Inv cx D [] a.tmps w){o:Oper}{t:Nat}{x:Operand}(C:o.op = .load t x)
  (e:((fc mkD tab D t x).bind fun r=>match o.dst with|some t=>if t<r.2.2.length then(cU r.1 r.2.1).map fun s=>av r.2.2 (some t) s else none|none=>none)=some D'):
  ∃y,(execOp a.eval o).run P w = .ok (.value y) w∧Inv cx D' [] (a.put o.dst y).tmps w:=by
 rw[BT]at e;obtain⟨⟨g,us,D1⟩,l,n⟩:=e;unfold fc at l;split at l
 case h_2=>cases l
 rename_i ti h F M;split at l
 case h_2=>cases l
 rename_i b ts hh;split at l
 case isFalse=>cases l
 rename_i hc;cases l;obtain⟨N,O,Q,q⟩:=hc;have R:aR mkD tab D o.op=some (.agg (us.mapIdx fun j u=>u.kd (.lent h (0+j) true))):=by
  rw[C];have H:opd mkD.nil D x=some (.pb h 0):=M;simp only[aR,H,F];rw[Cd O];simp only[d9,boxRange,hh];rw[BZ (by omega),BU,BZ Q];have:(us.drop 0).take ti.size=us:=by rw[Cg, ←N,Cb]
  rw[this]
 obtain⟨y,S,U⟩:=jx ok I R;refine⟨y,S,?_⟩;obtain⟨cs,V,m⟩:=U.val;have f:VCells us cs.toList:=by refine⟨by simpa using m.1,fun i u v hi hv=>?_⟩;have:=m.2 i (u.kd (.lent h (0+i) true)) v (by rw[Dg,hi];rfl) hv;exact vF.1 this
 have L:=I.mem _ (BR hh);have W:=I.kind _ (BR hh);have A:∀v∈us,∀h c B d z r,v ≠ .s (.lent h c B) d z r:=by intro v hv h c B d z r g;have:=B2.1 q v hv;rw[g]at this;simp[T.noLent]at this
 have X:=Inv.take I (cs:=us.zip cs.toList) hh (fun p J=>by obtain⟨i,hi⟩:=BX J;rw[Dr]at hi;exact⟨BR hi.1,BR hi.1,f.2 i _ _ hi.1 hi.2⟩)
  (fun p J=>A p.1 (List.of_mem_zip J).1) (fun c=>by rw[ik _ _ f.1];simp only[ownBl];rw[CU];omega) (by simp) (by simp)
 have G:Got cx (au h D) w (us.zip cs.toList++[]) us cs.toList:=by
  refine⟨f,L.1,L.2.1,fun v hv=>?_,fun c=>?_⟩
  ·have K:=W v hv;have:=A v hv;cases v with
   |v x=>trivial
   |any=>trivial
   |s k d z r =>
    cases k with
    |own=>trivial
    |far=>exact K
    |lent h c B=>exact absurd rfl (this h c B d z r)
  ·rw[Cp,ik _ _ f.1];exact Cz _
 simp only at n;split at n
 ·rename_i t' hd;split at n
  ·rename_i Y;rw[BS]at n;obtain⟨s,hs,rfl⟩:=n;have:=Inv.putGot (dst:=some t') X G (by simp only[aP,CI];exact V) hs (fun Z h=>by cases h;exact Y) rfl;rw[hd];exact this
  ·cases n
 ·cases n
theorem wM {cx:Cx}{D:DSt}{a:Act}{w:World}(I:Inv cx D [] a.tmps w){f:FuncId}{caps:Array Operand}{s:DSl}(e:mh D f caps.toList=some s):Tells cx D w s (.func (.func f) #[] (caps.map a.eval)):=by
 unfold mh at e;rw[BS]at e;obtain⟨hs,r,rfl⟩:=e;have l:∀(xs:List Operand){hs:List Nat},ij D xs=some hs →
   ∃d:List (Nat×Nat),d.length=hs.length∧(∀(i h:Nat)(b:Nat×Nat),hs[i]?=some h→d[i]?=some b→∃ts,D[h]?=some (.box b ts))∧xs.map a.eval=d.map fun b=>Value.pointer (some ⟨b.1,b.2,none⟩):=by
  intro xs;induction xs with
  |nil=>intro hs h;cases h;exact⟨[],rfl,fun i h b hi=>by simp at hi,rfl⟩
  |cons x xs v =>
   intro hs h;simp only[ij,BT,BS]at h;obtain⟨y,g,z,A,rfl⟩:=h;obtain⟨d,m,n,o⟩:=v A;have j:∃(b:Nat×Nat) (ts:List DT),D[y]?=some (.box b ts)∧a.eval x = .pointer (some ⟨b.1,b.2,none⟩):=by
    unfold fz at g;split at g
    ·rename_i t;split at g
     ·rename_i b ts hb;cases g;exact⟨b,ts,hb,I.val _ _ hb⟩
     ·rename_i B hb;cases g;obtain⟨b,ts,p,q⟩:=I.val _ _ hb;exact⟨b,ts,p,q⟩
     ·cases g
    ·cases g
   obtain⟨b,ts,p,q⟩:=j;refine⟨b::d,by simp[m],fun i h c hi hc=>?_,by simp[o,q]⟩;cases i with
   |zero=>simp at hi hc;subst hi;subst hc;exact⟨ts,p⟩
   |succ i=>simp at hi hc;exact n i h c hi hc
 obtain⟨d,m,n,o⟩:=l _ r;refine⟨⟨d,m,n,?_⟩,⟨fun u k=>by simp[af]at k,fun u k=>by simp[rootsO]at k,trivial⟩,fun u k=>by simp[af]at k,rfl⟩;congr 1;rw[←C3];simpa using o
theorem sD {c:Call}{t a:Nat}{s x:Operand}(h:lC c=some (t,a,s,x)):c.callee = .builtin .append∧c.args = #[s,x]∧c.argTypes = #[t,a]:=by
 unfold lC at h;split at h
 ·rename_i b d e;cases h;exact⟨b,by rw[←C3];exact d,by rw[←C3];exact e⟩
 ·cases h
theorem rA {cx:Cx}{D:DSt}{a:Act}{w:World}(I:Inv cx D [] a.tmps w){x:Operand}{rs:List (Bool×List DT)}(h:dV D x=some rs):Tells cx D w (.tup rs) (a.eval x):=by
 unfold dV at h;split at h
 ·rename_i t;split at h
  ·rename_i rs' hr;split at h
   ·rename_i hf;cases h;have c:=BR hr;refine⟨I.val t _ hr,I.mem _ c,I.kind _ c,?_⟩;simp only[ownBl,Ca];intro r b u e;have:=B2.1 (B2.1 hf.1 r b) u e;cases u with
    |v x=>rfl
    |any=>rfl
    |s k d z q=>cases this
   ·cases h
  ·cases h
 ·cases h
theorem rp {cx:Cx}{D:DSt}{w:World}(z:Nat):Tells cx D w (.one (.s .own nilD z [])) (.slice none 0 0):=by
 refine⟨rfl,⟨fun u a=>?_,fun u a _=>?_,trivial⟩,fun u a=>?_,?_⟩
 ·simp only[af,B4]at a;subst a;exact .e _ _ _
 ·simp only[rootsO,B4]at a;subst a;exact .nil _ _ rfl rfl rfl
 ·simp only[af,B4]at a;subst a;trivial
 ·simp[ownBl,ownR,T.isOwn,bv,nilD]
theorem mD (ok:ax P tab){cx:Cx}{D D':DSt}{a:Act}{w:World}(I:Inv cx D [] a.tmps w){o:Oper}{tk:Bool}(e:bn mkD (frD w) tab D o tk=some D'):
  ∃r w',(execOp a.eval o).run P w = .ok r w'∧pr cx D' a o w' r:=by
 unfold bn at e;split at e
 ·rename_i t p x b;split at e
  ·rename_i hd;split at e
   ·rename_i z hz;have k:a.eval x = .slice none 0 0:=by
     unfold jT at hz;split at hz
     ·rfl
     ·cases hz
    obtain⟨w',d,g⟩:=qS ok I e;rw[←k]at d;exact⟨.skip,w',by simp[execOp,b,d],.skip hd g⟩
   ·obtain⟨w',d,g⟩:=u6 ok I e;exact⟨.skip,w',by simp[execOp,b,d],.skip hd g⟩
  ·cases e
 ·rename_i t b;obtain⟨y,w',d,g⟩:=oh ok I e;exact⟨.value y,w',by simp[execOp,b,d],.value y g⟩
 ·rename_i t x b;obtain⟨y,w',d,g⟩:=wL (P:=P) (t:=t) I e;exact⟨.value y,w',by simp[execOp,b,d],.value y g⟩
 ·rename_i x b;split at e
  ·rename_i z hz;have k:a.eval x = .slice none 0 0:=by
    unfold jT at hz;split at hz
    ·rfl
    ·cases hz
   exact⟨.value (a.eval x),w,by simp[execOp,b],jq I (k ▸ rp z) e⟩
  ·split at e
   ·rename_i rs u;exact⟨.value (a.eval x),w,by simp[execOp,b],jq I (rA I u) e⟩
   ·split at e
    ·rename_i v hs;cases e;split at hs
     ·exact⟨.value (a.eval x),w,by simp[execOp,b],.value _ (r8 I hs)⟩
     ·cases hs
    split at e
    ·exact⟨.value (a.eval x),w,by simp[execOp,b],.value _ (rz I e)⟩
    ·exact gD ok I e
 ·rename_i x b;split at e
  ·rename_i z hz;have k:a.eval x = .slice none 0 0:=by
    unfold jT at hz;split at hz
    ·rfl
    ·cases hz
   exact⟨.value (a.eval x),w,by simp[execOp,b],jq I (k ▸ rp z) e⟩
  ·split at e
   ·exact⟨.value (a.eval x),w,by simp[execOp,b],.value _ (rz I e)⟩
   ·exact gD ok I e
 ·rename_i t x b;split at e
  ·obtain⟨y,d,g⟩:=rW ok I b e;exact⟨.value y,w,d,.value _ g⟩
  ·exact gD ok I e
 ·rename_i x i b;obtain⟨y,d,g⟩:=rL (P:=P) I e;exact⟨.value y,w,by simp[execOp,b,d],.value y g⟩
 ·rename_i fn first caps b
  split at e
  case h_2=>cases e
  rename_i f;split at e
  case isFalse=>cases e
  rename_i h;rw[BT]at e;obtain⟨s,d,g⟩:=e;have hf:first = #[]:=by rw[←C3];exact h
  subst hf;exact⟨.value _,w,by simp[execOp,b,Instr.makeFunc],jq I (wM I d) g⟩
 ·rename_i t len j b;split at e
  ·obtain⟨y,w',d,g⟩:=nY ok I e;exact⟨.value y,w',by simp[execOp,b,d],.value y g⟩
  ·obtain⟨y,w',d,g⟩:=oW ok I e;exact⟨.value y,w',by simp[execOp,b,d],.value y g⟩
 ·rename_i t l c b;obtain⟨y,w',d,g⟩:=qb ok I e;exact⟨.value y,w',by simp[execOp,b,d],.value y g⟩
 ·rename_i c b;split at e
  ·rename_i t G s x n;obtain⟨A,B,C⟩:=sD n;obtain⟨y,w',d,g⟩:=sE (ty:=o.type) ok I e;refine⟨.value y,w',?_,.value y g⟩;simp[execOp,b,resolve,invoke,builtin,A,B,C,d]
  ·exact gD ok I e
 ·rename_i F dst x b;split at e
  ·rename_i rows hb;rw[BT]at e;obtain⟨xs,d,g⟩:=e;have m:=qw ok I hb d;exact⟨.value _,w,by simp[execOp,b,m],jq I (.one_v _ rfl) g⟩
  ·split at e
   ·rename_i v hs;cases e;obtain⟨y,w',d,g⟩:=qT ok I hs;exact⟨.value y,w',by simp[execOp,b,d],.value y g⟩
   ·exact gD ok I e
 ·rename_i t j b;split at e
  ·obtain⟨y,m,q⟩:=rJ ok I e;exact⟨.value y,w,by simp[execOp,b,m],.value y q⟩
  ·rw[BT]at e;obtain⟨s,d,g⟩:=e;obtain⟨y,m,q⟩:=oj ok I d;exact⟨.value y,w,by simp[execOp,b,m],jq I q g⟩
 ·exact gD ok I e
end
mutual
def T.er:DT→T Unit| .v x=>.v x| .any=>.any| .s k _ z rows=>.s k () z (m9 rows)
def pH:List DT→List (T Unit)|[]=>[]|t::r=>t.er::pH r
def m9:List (List DT)→List (List (T Unit))|[]=>[]|r::rs=>pH r::m9 rs
end
abbrev erL:List DT→List (T Unit):=List.map T.er
theorem xX (r:List DT):pH r=erL r:=by
 induction r with
 |nil=>simp[pH]
 |cons t r a=>simp[pH,a]
theorem ra (r:List (List DT)):m9 r=r.map erL:=by
 induction r with
 |nil=>simp[m9]
 |cons t r a=>simp[m9,a,xX]
theorem ak (k:Kd)(d:Dec)(z:Nat)(rows:List (List DT)):(T.s k d z rows:DT).er = .s k () z (rows.map erL):=by rw[T.er,ra]
theorem ca (x:Value):(T.v x:DT).er = .v x:=rfl
theorem lH:(T.any:DT).er = .any:=rfl
def Sl.er:DSl→Sl Unit Unit| .any=>.any| .one t=>.one t.er| .agg ts=>.agg (erL ts)| .box _ ts=>.box () (erL ts)| .al h c st lo len=>.al h c st lo len| .pb h off=>.pb h off| .pe h c st i off=>.pe h c st i off| .im k _ ts off=>.im k () (erL ts) off| .fni f caps=>.fni f (caps.map fun p=>((),erL p.2))| .clo f hs=>.clo f hs| .tup rs=>.tup (rs.map fun r=>(r.1,erL r.2))
def erD (D:DSt):St Unit Unit:=D.map Sl.er
theorem yI (k:Kd)(t:DT):(t.kd k).er=t.er.kd k:=by
 cases t with
 |s k' d z r=>cases k'<;>simp[T.kd,ak]
 |_=>rfl
theorem vo (k:Kd)(t:DT):(t.view k).er=t.er.view k:=by
 cases t with
 |s k' d z r=>simp[T.view,ak]
 |_=>rfl
theorem bw (t:DT):t.er.isOwn=t.isOwn:=by
 cases t with
 |s k' d z r=>cases k'<;>simp[T.isOwn,ak]
 |_=>rfl
theorem lI (t:DT):t.er.fine=t.fine:=by
 cases t with
 |s k' d z r=>cases k'<;>simp[T.fine,ak]
 |_=>rfl
theorem lJ (t:DT):t.er.flat=t.flat:=by
 cases t with
 |s k' d z r=>simp[T.flat,ak]
 |_=>rfl
theorem b4 (t:DT):t.er.noLent=t.noLent:=by
 cases t with
 |s k' d z r=>cases k'<;>simp[T.noLent,ak]
 |_=>rfl
theorem er_dead (p:Nat→Nat→Bool)(t:DT):(t.dead p).er=t.er.dead p:=by
 cases t with
 |s k' d z r =>
  cases k' with
  |lent h c a=>simp only[T.dead,ak];split<;>simp[ak,lH]
  |_=>simp[T.dead,ak]
 |_=>rfl
theorem mj (p:Nat→Nat→Bool)(ts:List DT):erL (ts.map (T.dead p))=(erL ts).map (T.dead p):=by simp only[erL,Ct];exact Cl fun t _=>er_dead p t
theorem il (k:Kd)(ts:List DT):erL (ts.map (T.view k))=(erL ts).map (T.view k):=by simp only[erL,Ct];exact Cl fun t _=>vo k t
theorem Sl.er_dead (p:Nat→Nat→Bool)(q:Nat→Nat→Bool→Bool)(s:DSl):(s.dead p q).er=s.er.dead p q:=by
 cases s with
 |one t=>simp[Sl.dead,Sl.er,Am.er_dead]
 |agg ts=>simp only[Sl.dead,Sl.er,mj]
 |box b ts=>simp only[Sl.dead,Sl.er,mj]
 |al h c st lo len=>by_cases e:q h c (!st.isEmpty)=true<;>simp[e,Sl.dead,Sl.er]
 |pe h c st lo len=>by_cases e:q h c (!st.isEmpty)=true<;>simp[e,Sl.dead,Sl.er]
 |im k b ts off =>
  cases k with
  |lent h c a=>by_cases e:p h c=true<;>simp[e,Sl.dead,Sl.er]
  |_=>simp[Sl.dead,Sl.er]
 |tup rs=>simp only[Sl.dead,Sl.er,Ct];congr 1;exact Cl fun r _=>by simp only[Function.comp,mj]
 |_=>rfl
theorem Sl.er_gone (t:Nat)(s:DSl):(s.gone t).er=s.er.gone t:=by
 cases s with
 |pb h off=>by_cases e:h=t<;>simp[e,Sl.gone,Sl.er]
 |clo f hs=>by_cases e:t∈hs<;>simp[e,Sl.gone,Sl.er]
 |_=>rfl
theorem gf (p:Nat→Nat→Bool)(q:Nat→Nat→Bool→Bool)(D:DSt):erD (St.dead p q D)=St.dead p q (erD D):=by simp only[St.dead,erD,Ct];exact Cl fun s _=>Sl.er_dead p q s
theorem bU (D:DSt):(erD D).length=D.length:=by simp[erD]
theorem aF (D:DSt)(t:Nat):(erD D)[t]?=(D[t]?).map Sl.er:=by simp[erD]
theorem cp (D:DSt)(t:Nat)(s:DSl):erD (D.set t s)=(erD D).set t s.er:=by simp[erD,Dv]
theorem dZ (t:Nat)(D:DSt):erD (au t D)=au t (erD D):=by unfold au;rw[cp, ←gf];congr 1;simp only[erD,Ct];exact Cl fun s _=>Sl.er_gone t s
theorem x6 (t:Nat)(s:DSl):(s.clean t).er=s.er.clean t:=by unfold Sl.clean;rw[Sl.er_gone,Sl.er_dead]
theorem aX (D:DSt)(dst:Option Nat)(s:DSl):erD (av D dst s)=av (erD D) dst s.er:=by
 cases dst with
 |none=>rfl
 |some t=>simp only[av];rw[cp,dZ,x6]
theorem nU (D:DSt)(t:Nat)(s:DSl):erD (putA D t s)=putA (erD D) t s.er:=by
 unfold putA;rw[aF];cases h:D[t]? with
 |none=>exact aX D (some t) s
 |some x=>cases x<;>first|exact cp D t s|exact aX D (some t) s
theorem iB (D:DSt)(dst:Option Nat)(s:DSl):bY (erD D) dst s.er=(bY D dst s).map erD:=by
 cases dst with
 |none=>rfl
 |some t=>simp only[bY,bU];split<;>simp[nU]
theorem ne (s:DSl):ap s.er=(ap s).map erL:=by cases s<;>simp[ap,Sl.er]
theorem uB (cs:List DT)(s:DSl):(setCells cs s).er=setCells (erL cs) s.er:=by
 cases s with
 |one t=>cases cs<;>simp[setCells,Sl.er,lH]
 |_=>simp[setCells,Sl.er]
theorem dY (D:DSt)(h c:Nat):ah (erD D) h c=(ah D h c).map T.er:=by
 unfold ah;rw[aF];cases D[h]? with
 |none=>rfl
 |some s =>
  simp only[BQ,BU,ne];cases ap s with
  |none=>rfl
  |some cs=>simp
theorem s6 (D:DSt)(h c:Nat)(t:DT):cT (erD D) h c t.er=(cT D h c t).map erD:=by
 unfold cT;rw[aF];cases D[h]? with
 |none=>rfl
 |some s =>
  simp only[BQ,ne];cases ap s with
  |none=>rfl
  |some cs =>simp only[BQ,cp,uB];simp[Dv]
theorem lK:∀(st:List (Nat×Nat))(t:DT),getN t.er st=(getN t st).map T.er
 |[],t=>by simp[getN]
 |(i,c)::st,t=>by
  cases t with
  |v x=>rfl
  |any=>rfl
  |s k d z rows =>
   simp only[ak,getN,B6];cases rows[i]? with
   |none=>rfl
   |some row =>
    simp only[BQ,BU,B6];cases row[c]? with
    |none=>rfl
    |some u=>simp only[BQ,BU];exact lK st u
theorem vn {f:DT→Option DT}{f':T Unit→Option (T Unit)}(hf:∀t,f' t.er=(f t).map T.er):∀(st:List (Nat×Nat))(t:DT),cM f' t.er st=(cM f t st).map T.er
 |[],t=>by simp only[cM];exact hf t
 |(i,c)::st,t=>by
  cases t with
  |v x=>rfl
  |any=>rfl
  |s k d z rows =>
   simp only[ak,cM,B6];cases rows[i]? with
   |none=>rfl
   |some row =>
    simp only[BQ,BU,B6];cases row[c]? with
    |none=>rfl
    |some u =>
     simp only[BQ,BU];rw[vn hf st u];cases cM f u st with
     |none=>rfl
     |some u'=>simp[ak,Dv]
theorem jI (D:DSt)(h c:Nat)(st:List (Nat×Nat)):bg (erD D) h c st=(bg D h c st).map T.er:=by
 unfold bg;rw[dY];cases ah D h c with
 |none=>rfl
 |some t=>simp only[BQ,BU];exact lK st t
theorem jg {f:DT→Option DT}{f':T Unit→Option (T Unit)}(hf:∀t,f' t.er=(f t).map T.er)(D:DSt)(h c:Nat)(st:List (Nat×Nat)):
  bD f' (erD D) h c st=(bD f D h c st).map erD:=by
 unfold bD;rw[dY];cases ah D h c with
 |none=>rfl
 |some t =>
  simp only[BQ,BU];rw[vn hf];cases cM f t st with
  |none=>rfl
  |some t'=>simp only[BQ,BU];exact s6 D h c t'
theorem wT (D:DSt)(t:Nat):jG (erD D) t=(jG D t).map Sl.er:=by
 unfold jG;rw[aF];cases D[t]? with
 |none=>rfl
 |some s =>
  cases s with
  |one u =>
   cases u with
   |s k d z rows=>cases k<;>simp[Sl.er,ak]
   |_=>rfl
  |agg ts =>
   simp only[BQ,Sl.er,Ck,Sl.agg.injEq];apply CP;intro i;simp only[Dg,B6,CL];cases ts[i]? with
   |none=>rfl
   |some u=>simp[yI]
  |_=>rfl
theorem wY (D:DSt)(x:Operand):opd () (erD D) x=(opd nilD D x).map Sl.er:=by
 cases x with
 |tmp t=>exact wT D t
 |const v =>
  simp only[opd];unfold lG;split
  ·simp[Sl.er,ak]
  ·rfl
  ·split<;>simp[Sl.er,ca]
 |func f=>simp[opd,Sl.er]
 |global g=>rfl
theorem a5 (D:DSt)(x:Operand):opd mkU.nil (erD D) x=(opd mkD.nil D x).map Sl.er:=wY D x
theorem uu (D:DSt)(h o n:Nat):boxRange (erD D) h o n=(boxRange D h o n).map erL:=by
 unfold boxRange;rw[aF];cases D[h]? with
 |none=>rfl
 |some s =>
  cases s with
  |box b ts=>simp only[BQ,Sl.er,Ci];split<;>simp[Dj,Dd]
  |_=>rfl
theorem uA (D:DSt)(h c:Nat)(st:List (Nat×Nat))(i o n:Nat):rowRange (erD D) h c st i o n=(rowRange D h c st i o n).map erL:=by
 unfold rowRange;rw[dY];cases ah D h c with
 |none=>rfl
 |some t =>
  simp only[BQ,bw];split
  ·rw[lK];cases getN t st with
   |none=>rfl
   |some u =>
    cases u with
    |s k d z rows =>
     simp only[BQ,ak,B6];cases rows[i]? with
     |none=>rfl
     |some row=>simp only[BQ,BU,Ci];split<;>simp[Dj,Dd]
    |_=>rfl
  ·rfl
theorem wW (D:DSt)(ti:TI)(s:DSl):d9 (erD D) ti s.er=(d9 D ti s).map Sl.er:=by
 cases s with
 |pb h o =>
  simp only[Sl.er,d9,uu];cases boxRange D h o ti.size with
  |none=>rfl
  |some cs =>
   simp only[BQ,BU];split
   ·simp only[BQ,Sl.er,Ck,Sl.agg.injEq];apply CP;intro i;simp only[Dg,B6,CL];cases cs[i]? with
    |none=>rfl
    |some u=>simp[yI]
   ·match cs with
    |[]=>rfl
    |[u]=>
     cases u with
     |s k d z rows=>cases k<;>simp[erL,ak,Sl.er]
     |_=>rfl
    |u::v::r=>simp[erL]
 |pe h c st i o =>
  simp only[Sl.er,d9,uA];cases rowRange D h c st i o ti.size with
  |none=>rfl
  |some cs =>
   simp only[BQ,BU];split
   ·simp only[BQ,Sl.er,il]
   ·match cs with
    |[]=>rfl
    |[u]=>
     cases u with
     |s k d z rows=>cases k<;>simp[erL,ak,Sl.er,T.view]
     |_=>rfl
    |u::v::r=>simp[erL]
 |im k b ts o =>
  simp only[Sl.er,d9,Ci];split
  ·split
   ·simp only[BQ,Sl.er,il,erL,Dj,Dd]
   ·simp only[erL, ←Dd, ←Dj]
    match(ts.drop o).take ti.size with
    |[]=>rfl
    |[u]=>simp[Sl.er,vo]
    |u::v::r=>rfl
  ·rfl
 |_=>rfl
theorem sY (D:DSt)(h c:Nat)(st:List (Nat×Nat)):i6 (erD D) h c st=i6 D h c st:=by
 unfold i6;rw[jI];cases bg D h c st with
 |none=>rfl
 |some t =>
  cases t with
  |s k d z rows=>simp[ak]
  |_=>rfl
theorem vS (D:DSt)(tab:Tab)(t:Nat)(x:DSl)(lo hi:Option Int):fL mkU (erD D) tab t x.er lo hi=(fL mkD D tab t x lo hi).map Sl.er:=by
 cases x with
 |one u =>
  cases u with
  |v y =>
   cases y<;>simp only[Sl.er,ca,fL]<;>first|rfl|skip
   split
   ·split<;>simp[Sl.er,ca]
   ·rfl
  |any=>rfl
  |s k d z rows =>
   simp only[Sl.er,ak,fL,Ci];split
   ·rfl
   ·split
    ·split
     ·split
      ·simp[Sl.er,ak,mkU]
      ·rfl
     ·rfl
    ·rfl
 |al h c st l len =>
  simp only[Sl.er,fL,sY];split
  ·split
   ·split<;>simp[Sl.er]
   ·rfl
  ·rfl
 |_=>rfl
theorem qA (D:DSt)(tab:Tab)(t:Nat)(x:DSl)(i:Int):dD mkU (erD D) tab t x.er i=(dD mkD D tab t x i).map Sl.er:=by
 unfold dD;split
 ·cases x with
  |one u =>
   cases u with
   |v y=>rfl
   |any=>rfl
   |s k d z rows =>
    simp only[Sl.er,ak,B6];split
    ·rfl
    ·split
     ·split
      ·cases rows[i.toNat]? with
       |none=>rfl
       |some row=>simp[Sl.er]
      ·rfl
     ·rfl
  |al h c st lo len =>
   simp only[Sl.er,sY];split
   ·split<;>simp[Sl.er]
   ·rfl
  |_=>rfl
 ·rfl
theorem qz (tab:Tab)(t:Nat)(x:DSl)(f:Nat):fB tab t x.er f=(fB tab t x f).map Sl.er:=by
 unfold fB;split
 ·rename_i offs _;cases offs[f]? with
  |none=>rfl
  |some o=>cases x<;>rfl
 ·rfl
theorem yd (tab:Tab)(t:Nat)(x:DSl):mq tab t x.er=mq tab t x:=by
 unfold mq;split
 ·cases x with
  |one u =>
   cases u with
   |s k d z rows=>simp[Sl.er,ak]
   |_=>rfl
  |_=>rfl
 ·cases x with
  |one u =>
   cases u with
   |s k d z rows=>simp[Sl.er,ak]
   |v y=>cases y<;>rfl
   |any=>rfl
  |_=>rfl
 ·rfl
theorem yf (x:DSl):qh x.er=qh x:=by cases x<;>rfl
theorem wZ (D:DSt)(x:Option Operand):dK () (erD D) x=dK nilD D x:=by
 cases x with
 |none=>rfl
 |some x =>
  simp only[dK,wY];cases opd nilD D x with
  |none=>rfl
  |some s =>
   cases s with
   |one u =>
    cases u with
    |s k d z rows=>simp[Sl.er,ak]
    |v y=>cases y<;>rfl
    |any=>rfl
   |_=>rfl
theorem vP (D:DSt)(x:Option Operand):dK mkU.nil (erD D) x=dK mkD.nil D x:=wZ D x
theorem x8 (tab:Tab)(D:DSt)(c:Call):pQ mkU tab (erD D) c=(pQ mkD tab D c).map Sl.er:=by
 unfold pQ;split
 ·rename_i x t _ _ _;rw[a5];cases opd mkD.nil D x with
  |none=>rfl
  |some s =>
   simp only[BQ,BU,yd];cases mq tab t s with
   |none=>rfl
   |some n=>rfl
 ·rename_i x y _ _;simp only[a5];cases g:opd mkD.nil D x with
  |none=>rfl
  |some e =>
   cases h:opd mkD.nil D y with
   |none=>cases e with
    |one u=>cases u with
     |s k d z rows=>simp[Sl.er,ak]
     |v a=>cases a<;>rfl
     |any=>rfl
    |_=>rfl
   |some f =>
    cases e with
    |one u =>
     cases u with
     |s k d z rows=>simp[Sl.er,ak]
     |any=>rfl
     |v a =>
      cases f with
      |one v=>cases v with
       |s k d z rows=>cases a<;>simp[Sl.er,ak,ca]
       |any=>cases a<;>rfl
       |v b=>cases a<;>cases b<;>rfl
      |_=>cases a<;>rfl
    |_=>rfl
 ·rename_i x y _ _;simp only[a5];cases g:opd mkD.nil D x with
  |none=>rfl
  |some e =>
   cases h:opd mkD.nil D y with
   |none=>cases e with
    |one u=>cases u with
     |s k d z rows=>simp[Sl.er,ak]
     |v a=>cases a<;>rfl
     |any=>rfl
    |_=>rfl
   |some f =>
    cases e with
    |one u =>
     cases u with
     |s k d z rows=>simp[Sl.er,ak]
     |any=>rfl
     |v a =>
      cases f with
      |one v=>cases v with
       |s k d z rows=>cases a<;>simp[Sl.er,ak,ca]
       |any=>cases a<;>rfl
       |v b=>cases a<;>cases b<;>rfl
      |_=>cases a<;>rfl
    |_=>rfl
 ·rfl
theorem zu (us:List DT)(off:Nat):(erL us)[off]?=(us[off]?).map T.er:=by simp[erL]
theorem pL (tab:Tab)(us c:List DT):∀l,eG tab (erL us) (erL c) l=eG tab us c l
 |[]=>rfl
 |(off,e)::r=>by
  simp only[eG,zu];cases tab.ti e with
  |none=>rfl
  |some ti =>
   cases us[off]? with
   |none=>rfl
   |some u =>
    cases c[off]? with
    |none=>cases u with
     |s k d z rows=>simp[ak]
     |_=>rfl
    |some v =>
     cases u with
     |s k d z rows=>simp[ak]
     |any=>rfl
     |v a =>
      cases v with
      |s k d z rows=>simp[ak,ca]
      |any=>rfl
      |v b=>simp only[BQ,ca,pL tab us c r]
theorem zq (tab:Tab)(op:BinOp)(t:Nat)(us a:List DT):eqS tab op t (erL us) (erL a)=eqS tab op t us a:=by
 have:eG tab (erL us) (erL a)=eG tab us a:=funext fun l=>pL tab us a l
 unfold eqS;rw[this]
theorem oX (tab:Tab)(D:DSt)(op:Op):aR mkU tab (erD D) op=(aR mkD tab D op).map Sl.er:=by
 cases op with
 |move x=>exact a5 D x
 |assign x=>exact a5 D x
 |pick c x y =>
  simp only[aR,a5];cases opd mkD.nil D c with
  |none=>rfl
  |some s =>
   cases s with
   |one u =>
    cases u with
    |s k d z rows=>simp[Sl.er,ak]
    |any=>rfl
    |v b=>(cases b<;>first|rfl|skip);rename_i b;cases b<;>rfl
   |_=>rfl
 |nilCheck x =>
  simp only[aR,a5];cases opd mkD.nil D x with
  |none=>rfl
  |some s=>simp only[BQ,BU,yf];split<;>rfl
 |binOp op t x y ty =>
  simp only[aR,a5];cases n:opd mkD.nil D x with
  |none=>rfl
  |some e =>
   cases o:opd mkD.nil D y with
   |none=>cases e with
    |one u=>cases u with
     |s k d z rows=>simp[Sl.er,ak]
     |v a=>first|rfl|(cases a<;>rfl)
     |any=>rfl
    |_=>rfl
   |some j =>
    cases e with
    |one u =>
     cases u with
     |s k d z rows=>simp[Sl.er,ak]
     |any=>rfl
     |v a =>
      cases j with
      |one v=>cases v with
       |s k d z rows=>first|(simp[Sl.er,ak,ca];done)|(cases a<;>simp[Sl.er,ak,ca])
       |any=>first|rfl|(cases a<;>rfl)
       |v b=>simp only[BQ,Sl.er,ca,CL];rfl
      |_=>first|rfl|(cases a<;>rfl)
    |agg us =>
     cases j with
     |agg w =>simp only[BQ,Sl.er,zq,CL];rfl
     |one v=>cases v<;>rfl
     |_=>rfl
    |_=>rfl
 |unOp op t x =>
  simp only[aR,a5];cases opd mkD.nil D x with
  |none=>rfl
  |some s =>
   cases s with
   |one u =>
    cases u with
    |s k d z rows=>simp[Sl.er,ak]
    |any=>rfl
    |v b=>cases b<;>first|rfl|(cases op<;>rfl)
   |_=>rfl
 |convert p dst x =>
  simp only[aR,a5];cases opd mkD.nil D x with
  |none=>rfl
  |some s =>
   cases s with
   |one u =>
    cases u with
    |s k d z rows=>simp[Sl.er,ak]
    |any=>rfl
    |v b =>
     cases b<;>first|rfl|skip
     simp only[BQ,Sl.er,ca];split<;>simp_all[Sl.er,ca]
   |_=>rfl
 |load t x =>
  simp only[aR,a5];cases opd mkD.nil D x with
  |none=>rfl
  |some s =>
   cases tab.ti t with
   |none=>rfl
   |some ti=>simp only[BQ];split<;>first|rfl|exact wW D ti s
 |fieldAddr t x f =>
  simp only[aR,a5];cases opd mkD.nil D x with
  |none=>rfl
  |some s=>simp only[BQ,BU];exact qz tab t s f
 |indexAddr t x i =>
  simp only[aR,a5];cases n:opd mkD.nil D x with
  |none=>rfl
  |some e =>
   cases hi:opd mkD.nil D i with
   |none=>rfl
   |some q =>
    cases q with
    |one u =>
     cases u with
     |s k d z rows=>simp[Sl.er,ak]
     |any=>rfl
     |v b =>
      cases b<;>first|rfl|skip
      exact qA D tab t e _
    |_=>rfl
 |index t x y =>
  simp only[aR,a5];cases n:opd mkD.nil D x with
  |none=>rfl
  |some e =>
   cases o:opd mkD.nil D y with
   |none=>cases e with
    |one u=>cases u with
     |s k d z rows=>simp[Sl.er,ak]
     |v a=>cases a<;>rfl
     |any=>rfl
    |clo g hs=>cases g<;>rfl
    |_=>rfl
   |some j =>
    cases e with
    |clo g hs =>
     cases g with
     |fn f=>rfl
     |arr offs =>
      cases j with
      |one v=>cases v with
       |s k d z rows=>simp[Sl.er,ak]
       |any=>rfl
       |v b =>
        cases b<;>first|rfl|skip
        simp only[BQ,Sl.er,ca];split
        ·split<;>simp_all[Sl.er]
        ·rfl
      |_=>rfl
    |one u =>
     cases u with
     |s k d z rows=>simp[Sl.er,ak]
     |any=>rfl
     |v a =>
      cases a<;>first|rfl|skip
      cases j with
      |one v=>cases v with
       |s k d z rows=>simp[Sl.er,ak,ca]
       |any=>rfl
       |v b =>
        cases b<;>first|rfl|skip
        simp only[BQ,Sl.er,ca];split
        ·split<;>simp[Sl.er,ca]
        ·rfl
      |_=>rfl
    |_=>rfl
 |slice t x lo hi r =>
  cases r with
  |some m=>rfl
  |none =>
   simp only[aR,a5,vP];cases n:opd mkD.nil D x with
   |none=>rfl
   |some e =>
    cases dK mkD.nil D lo with
    |none=>rfl
    |some l =>
     cases dK mkD.nil D hi with
     |none=>rfl
     |some h=>exact vS D tab t e l h
 |call c=>exact x8 tab D c
 |_=>rfl
theorem s7 (k:Kd)(d:Dec)(z lo len:Nat)(rows:List (List DT)):(T.s k (mkD.win d lo z) z ((rows.drop lo).take len):DT).er = .s k (mkU.win () lo z) z (((rows.map erL).drop lo).take len):=by rw[ak,Dj,Dd];try rfl
theorem cC (D:DSt)(x:Operand):cellsCopy mkU (erD D) x=(cellsCopy mkD D x).map fun p=>(p.1,erL p.2):=by
 simp only[cellsCopy,a5];cases opd mkD.nil D x with
 |none=>rfl
 |some s =>
  cases s with
  |al h c st lo len =>
   simp only[BQ,Sl.er,jI];split
   ·cases bg D h c st with
    |none=>rfl
    |some t =>
     cases t with
     |s k d z rows=>simp only[BQ,ak];rw[←s7];rfl
     |_=>rfl
   ·rfl
  |_=>rfl
theorem bT (f:DT→Bool)(g:T Unit→Bool)(h:∀t,g t.er=f t)(ts:List DT):(erL ts).all g=ts.all f:=by simp only[erL,CQ];congr 1;funext t;exact h t
theorem di (D:DSt)(x:Operand):cellsTake mkU (erD D) x=(cellsTake mkD D x).map fun p=>(p.1,erL p.2.1,erD p.2.2):=by
 cases x with
 |tmp t =>
  simp only[cellsTake,aF];cases D[t]? with
  |none=>rfl
  |some s =>
   cases s with
   |one u=>simp only[BQ,Sl.er,bw];split<;>simp[dZ]
   |agg ts =>simp only[BQ,Sl.er,bT T.noLent T.noLent b4];split<;>simp[dZ]
   |al h c st lo len =>
    simp only[BQ,Sl.er,jI];split
    ·cases bg D h c st with
     |none=>rfl
     |some n =>
      cases n with
      |s k d z rows =>
       cases k with
       |own =>
        simp only[BQ,ak];rw[←gf,jg (f:=fun _=>some .any) (f':=fun _=>some .any) (fun t=>rfl)];cases bD (fun _=>some .any) (St.dead (br h c) (qHC h c) D) h c st with
        |none=>rfl
        |some D'=>simp only[BQ];rw[←s7];rfl
       |_=>simp[ak]
      |_=>rfl
    ·rfl
   |_=>rfl
 |_=>rfl
theorem pK (D:DSt)(x:Operand)(tk:Bool):cellsOf mkU (erD D) x tk=(cellsOf mkD D x tk).map fun p=>(p.1,erL p.2.1,erD p.2.2):=by
 unfold cellsOf;split
 ·exact di D x
 ·rw[cC];cases cellsCopy mkD D x<;>rfl
theorem ko (g:Bool)(ts:List DT):(cU g (erL ts):Option (Sl Unit Unit))=(cU g ts:Option DSl).map Sl.er:=by
 cases g with
 |true=>rfl
 |false =>
  match ts with
  |[]=>rfl
  |[t]=>rfl
  |t::u::r=>rfl
theorem d4 (l:List DT)(o:Nat)(new:List DT):erL (am l o new)=am (erL l) o (erL new):=by simp[am,erL,Dh,Dj,Dd]
theorem xe (i off:Nat)(us:List DT)(t:DT):setRow i off (erL us) t.er=(setRow i off us t).map T.er:=by
 cases t with
 |s k d z rows =>
  simp only[ak,setRow,B6];cases rows[i]? with
  |none=>rfl
  |some row =>
   simp only[BQ,BU,Ci];split
   ·simp only[BQ,ak,Dv,d4]
   ·rfl
 |_=>rfl
theorem pO (D:DSt)(p:DSl)(us:List DT):du (erD D) p.er (erL us)=(du D p us).map erD:=by
 cases p with
 |pb h off =>
  simp only[Sl.er,du,aF];cases D[h]? with
  |none=>rfl
  |some s =>
   cases s with
   |box b ts =>
    simp only[BQ,Sl.er,Ci];split
    ·simp only[BQ,cp,Sl.er,d4,gf,mj]
    ·rfl
   |_=>rfl
 |pe h c st i off =>
  simp only[Sl.er,du,bT T.fine T.fine lI,dY];split
  ·cases ah D h c with
   |none=>rfl
   |some t =>
    simp only[BQ,bw,lK];split
    ·cases getN t st with
     |none=>rfl
     |some n =>
      cases n with
      |s k d z rows =>
       simp only[BQ,ak,B6];cases rows[i]? with
       |none=>rfl
       |some row =>
        simp only[BQ,Ci];split
        ·have e:(((erL row).drop off).take us.length).all T.flat=((row.drop off).take us.length).all T.flat:=by rw[←bT T.flat T.flat lJ];simp[erL,Dj,Dd]
         rw[e, ←gf];exact jg (fun t=>xe i off us t) _ h c st
        ·rfl
      |_=>rfl
    ·rfl
  ·rfl
 |_=>rfl
theorem vT (tab:Tab)(D:DSt)(t:Nat)(p x:Operand)(tk:Bool):iJ mkU tab (erD D) t p x tk=(iJ mkD tab D t p x tk).map erD:=by
 simp only[iJ,pK];cases tab.ti t with
 |none=>rfl
 |some ti =>
  cases cellsOf mkD D x tk with
  |none=>rfl
  |some r =>
   obtain⟨g,us,D1⟩:=r;simp only[BQ,Ci];split
   ·rw[a5];cases opd mkD.nil D1 p with
    |none=>rfl
    |some q=>simp only[BQ,BU];exact pO D1 q us
   ·rfl
theorem sX (t:T Unit):(t.inj nilD).er=t.inj ():=by
 cases t with
 |s k d z rows=>simp[T.inj,ak]
 |_=>rfl
theorem vK (w:World)(tab:Tab)(D:DSt)(dst:Option Nat)(t:Nat):iy mkU frU tab (erD D) dst t=(iy mkD (frD w) tab D dst t).map erD:=by
 simp only[iy];cases tab.ti t with
 |none=>rfl
 |some ti =>
  cases dst with
  |none=>rfl
  |some d =>
   simp only[bU];split
   ·simp only[BQ,aX,Sl.er,erL,Ct];have e:ti.zero.map (T.inj mkU.nil)=ti.zero.map (T.er ∘ T.inj mkD.nil):=Cl fun t _=>(sX t).symm
    rw[e]
   ·rfl
theorem xZ (w:World)(D:DSt)(dst:Option Nat)(x:Operand)(tk:Bool):nT mkU frU (erD D) dst x tk=(nT mkD (frD w) D dst x tk).map erD:=by
 simp only[nT,pK];cases cellsOf mkD D x tk with
 |none=>rfl
 |some r =>
  obtain⟨g,us,D1⟩:=r;cases dst with
  |none=>rfl
  |some d =>
   simp only[BQ,bU];split
   ·simp only[BQ,aX,Sl.er];try rfl
   ·rfl
theorem ow (D:DSt)(x:Operand)(dst:Option Nat):
  ((cellsTake mkU (erD D) x).bind fun r=>match dst with|some t=>if t<r.2.2.length then(cU r.1 r.2.1).map fun s=>av r.2.2 (some t) s else none|none=>none)=
   ((cellsTake mkD D x).bind fun r=>match dst with|some t=>if t<r.2.2.length then(cU r.1 r.2.1).map fun s=>av r.2.2 (some t) s else none|none=>none).map erD:=by
 rw[di];cases cellsTake mkD D x with
 |none=>rfl
 |some r =>
  obtain⟨g,us,D1⟩:=r;cases dst with
  |none=>rfl
  |some d =>
   simp only[BQ,BU,bU,ko];split
   ·cases(cU g us:Option DSl)with
    |none=>rfl
    |some s=>simp only[BQ,aX]
   ·rfl
theorem uz (tab:Tab)(D:DSt)(t:Nat)(x:Operand):fc mkU tab (erD D) t x=(fc mkD tab D t x).map fun r=>(r.1,erL r.2.1,erD r.2.2):=by
 unfold fc;rw[a5];cases tab.ti t with
 |none=>rfl
 |some ti =>
  cases a:opd mkD.nil D x with
  |none=>rfl
  |some s =>
   cases s with
   |pb h off =>
    cases off with
    |zero =>
     simp only[BQ,Sl.er,aF];cases D[h]? with
     |none=>rfl
     |some u =>
      cases u with
      |box b ts =>
       simp only[BQ,Sl.er,Ci];have e:(erL ts).all T.noLent=ts.all T.noLent:=by
        rw[CQ];congr 1;funext u;cases u with
        |s k d z r=>cases k<;>simp[ak,T.noLent]
        |_=>rfl
       rw[e];split
       ·simp[dZ]
       ·rfl
      |_=>rfl
    |succ n=>rfl
   |one u=>simp[Sl.er]
   |_=>rfl
theorem uy (tab:Tab)(D:DSt)(t:Nat)(x:Operand)(dst:Option Nat):
  ((fc mkU tab (erD D) t x).bind fun r=>match dst with|some t=>if t<r.2.2.length then(cU r.1 r.2.1).map fun s=>av r.2.2 (some t) s else none|none=>none)=
   ((fc mkD tab D t x).bind fun r=>match dst with|some t=>if t<r.2.2.length then(cU r.1 r.2.1).map fun s=>av r.2.2 (some t) s else none|none=>none).map erD:=by
 rw[uz];cases fc mkD tab D t x with
 |none=>rfl
 |some r =>
  obtain⟨g,us,D1⟩:=r;cases dst with
  |none=>rfl
  |some d =>
   simp only[BQ,BU,bU,ko];split
   ·cases(cU g us:Option DSl)with
    |none=>rfl
    |some s=>simp only[BQ,aX]
   ·rfl
theorem fA (tab:Tab)(D:DSt)(op:Op)(dst:Option Nat):((aR mkU tab (erD D) op).bind fun s=>bY (erD D) dst s)=((aR mkD tab D op).bind fun s=>bY D dst s).map erD:=by
 rw[oX];cases aR mkD tab D op with
 |none=>rfl
 |some s=>simp only[BQ,BU];exact iB D dst s
theorem nb (D:DSt)(z:Nat):∀(a:List (Nat×Operand))(rows:List (List DT)),eS mkU (erD D) z a (rows.map erL)=(eS mkD D z a rows).map (List.map erL)
 |[],rows=>rfl
 |(i,x)::r,rows=>by
  simp only[eS,cC];cases cellsCopy mkD D x with
  |none=>rfl
  |some b =>
   obtain⟨g,us⟩:=b;simp only[BQ,Ci,bT T.fine T.fine lI];split
   ·have e:(rows.map erL).set i (erL us)=(rows.set i us).map erL:=by rw[Dv]
    rw[e];exact nb D z r _
   ·rfl
theorem ip (ti:TI):ti.zero.map (T.inj mkU.nil)=erL (ti.zero.map (T.inj mkD.nil)):=by simp only[erL,Ct];exact Cl fun t _=>(sX t).symm
theorem kR (w:World)(tab:Tab)(D:DSt)(dst:Option Nat)(t len:Nat)(a:List (Nat×Operand)):b9 mkU frU tab (erD D) dst t len a=(b9 mkD (frD w) tab D dst t len a).map erD:=by
 unfold b9;split
 ·rename_i sz c h e d f;cases tab.ti e with
  |none=>rfl
  |some b =>
   simp only[bU];split
   ·have g:List.replicate len (b.zero.map (T.inj mkU.nil))=(List.replicate len (b.zero.map (T.inj mkD.nil))).map erL:=by rw[List.map_replicate,ip]
    rw[g,nb];cases eS mkD D b.size a (List.replicate len (b.zero.map (T.inj mkD.nil)))with
    |none=>rfl
    |some rows=>simp only[BQ,aX,Sl.er,ak]
   ·rfl
 ·rfl
theorem vO (s:DSl):intOfSl s.er=intOfSl s:=by
 cases s with
 |one u =>
  cases u with
  |s k d z r=>simp[Sl.er,ak,intOfSl]
  |v x=>cases x<;>rfl
  |any=>rfl
 |_=>rfl
theorem sZ (D:DSt)(x:Operand):(opd mkU.nil (erD D) x).bind intOfSl=(opd mkD.nil D x).bind intOfSl:=by
 rw[a5];cases opd mkD.nil D x with
 |none=>rfl
 |some s=>exact vO s
theorem lL (w:World)(tab:Tab)(D:DSt)(dst:Option Nat)(t:Nat)(l c:Operand):cd mkU frU tab (erD D) dst t l c=(cd mkD (frD w) tab D dst t l c).map erD:=by
 unfold cd;rw[sZ,sZ];split
 ·rename_i sz b h e d n k f i hc;cases tab.ti e with
  |none=>rfl
  |some a =>
   simp only[bU];split
   ·split
    ·have g:List.replicate n.toNat (a.zero.map (T.inj mkU.nil))=(List.replicate n.toNat (a.zero.map (T.inj mkD.nil))).map erL:=by rw[List.map_replicate,ip]
     rw[g];simp only[BQ,aX,Sl.er,ak]
    ·rfl
   ·rfl
 ·rfl
theorem y3 (t:DT):t.hole.er=t.er.hole:=by
 cases t with
 |s k d z r=>cases k<;>simp[T.hole,ak,lH]
 |_=>rfl
theorem sT (D:DSt)(dst:Option Nat)(x:Operand)(i:Nat):iD (erD D) dst x i=(iD D dst x i).map erD:=by
 cases x with
 |tmp t =>
  cases dst with
  |none=>rfl
  |some d =>
   simp only[iD,aF];cases D[t]? with
   |none=>rfl
   |some s =>
    cases s with
    |tup rs =>
     simp only[BQ,Sl.er,B6];cases rs[i]? with
     |none=>rfl
     |some r =>
      obtain⟨g,ts⟩:=r;simp only[BQ,bU,bT T.noLent T.noLent b4];split
      ·rw[ko];cases(cU g ts:Option DSl)with
       |none=>rfl
       |some s =>
        simp only[BQ,aX,cp,Sl.er,Dv];have e:erL (ts.map T.hole)=(erL ts).map T.hole:=by simp only[erL,Ct];exact Cl fun t _=>y3 t
        rw[e]
      ·rfl
    |_=>rfl
 |_=>cases dst<;>rfl
theorem fj (D:DSt)(pl:List (Nat×Nat)):∀(a:List (Nat×Operand))(ts:List DT),aZ mkU (erD D) pl a (erL ts)=(aZ mkD D pl a ts).map erL
 |[],ts=>rfl
 |(i,x)::r,ts=>by
  simp only[aZ,cC];cases pl[i]? with
  |none=>rfl
  |some q =>
   obtain⟨off,size⟩:=q;cases cellsCopy mkD D x with
   |none=>rfl
   |some b =>
    obtain⟨g,us⟩:=b;simp only[BQ,Ci];split
    ·rw[←d4];exact fj D pl r _
    ·rfl
theorem pJ (tab:Tab)(D:DSt)(t:Nat)(a:List (Nat×Operand)):gB mkU tab (erD D) t a=(gB mkD tab D t a).map Sl.er:=by
 simp only[gB];cases tab.ti t with
 |none=>rfl
 |some ti =>
  cases tab.pl t with
  |none=>rfl
  |some pl =>
   have e:ti.zero.map (T.inj mkU.nil)=erL (ti.zero.map (T.inj mkD.nil)):=by simp only[erL,Ct];exact Cl fun t _=>(sX t).symm
   simp only;rw[e,fj];cases aZ mkD D pl a (ti.zero.map (T.inj mkD.nil))<;>rfl
theorem mn (D:DSt)(x:Operand):fz (erD D) x=fz D x:=by
 cases x with
 |tmp t =>
  simp only[fz,aF];cases D[t]? with
  |none=>rfl
  |some s =>
   cases s with
   |pb h off=>cases off<;>rfl
   |_=>rfl
 |_=>rfl
theorem ov (D:DSt):∀(xs:List Operand),ij (erD D) xs=ij D xs
 |[]=>rfl
 |x::xs=>by simp only[ij,mn,ov D xs]
theorem x7 (D:DSt)(f:FuncId)(xs:List Operand):mh (erD D) f xs=(mh D f xs).map Sl.er:=by unfold mh;rw[ov,CL];rfl
theorem vJ (rows:List (List DT)):(rows.map erL).all (fun r=>r.all T.flat)=rows.all (fun r=>r.all T.flat):=by rw[CQ];congr 1;funext r;show(erL r).all T.flat=_;rw[CQ];congr 1;funext t;exact lJ t
theorem yV (D:DSt)(b:Bool)(x:Operand):mf mkU (erD D) b x=(mf mkD D b x).map fun p=>(p.1,p.2.1.map erL,erD p.2.2):=by
 unfold mf;cases b with
 |true =>
  simp only[cC];cases cellsCopy mkD D x with
  |none=>rfl
  |some r =>
   obtain⟨g,ts⟩:=r;cases g with
   |true=>rfl
   |false =>
    match ts with
    |[]=>rfl
    |[.v v]=>rfl
    |[.any]=>rfl
    |u::v::r=>(cases u with|s k d z e=>simp[ak]|_=>rfl)
    |[.s j f i a]=>simp only[BQ,Cc,Cu,ak,vJ];split<;>rfl
 |false =>
  simp only[di];cases cellsTake mkD D x with
  |none=>rfl
  |some r =>
   obtain⟨g,ts,l⟩:=r;cases g with
   |true=>rfl
   |false =>
    match ts with
    |[]=>rfl
    |[.v v]=>rfl
    |[.any]=>rfl
    |[.s .far d z rows]=>simp[ak]
    |[.s (.lent h c b) d z rows]=>simp[ak]
    |u::v::r=>(cases u with|s k d z e=>(cases k<;>simp[ak])|_=>rfl)
    |[.s .own f i a]=>simp[ak]
theorem ut (w:World)(tab:Tab)(D:DSt)(dst:Option Nat)(t f:Nat)(s x:Operand):gd mkU frU tab (erD D) dst t f s x=(gd mkD (frD w) tab D dst t f s x).map erD:=by
 unfold gd;rw[di];cases hs:cellsTake mkD D s with
 |none =>
  cases tab.ti t with
  |none=>rfl
  |some ti =>
   obtain⟨_,_,_,sh⟩:=ti;cases sh<;>try rfl
   cases tab.ti f with
   |none=>rfl
   |some a =>
    obtain⟨_,_,_,b⟩:=a;cases b<;>try rfl
    cases dst<;>rfl
 |some r =>
  obtain⟨g,ts,D1⟩:=r;cases tab.ti t with
  |none=>rfl
  |some ti =>
   obtain⟨_,_,_,sh⟩:=ti;cases sh<;>try rfl
   rename_i e;cases tab.ti f with
   |none=>rfl
   |some a =>
    obtain⟨_,_,_,b⟩:=a;cases b<;>try rfl
    cases dst with
    |none=>rfl
    |some m =>
     cases g with
     |true=>rfl
     |false =>
      match ts with
      |[]=>rfl
      |[.v v]=>rfl
      |[.any]=>rfl
      |[.s .far d z rows]=>simp[ak]
      |[.s (.lent h c n) d z rows]=>simp[ak]
      |u::v::r=>(cases u with|s k d z o=>(cases k<;>simp[ak])|_=>rfl)
      |[.s .own d z rows]=>
       simp only[BQ,Cc,Cu,ak];cases tab.ti e with
       |none=>rfl
       |some j =>
        simp only[yV];cases mf mkD D1 (j.zero.all T.flat) x with
        |none=>rfl
        |some l =>
         obtain⟨p,i,q⟩:=l;simp only[BQ,bU,Ci];split
         ·split
          ·simp only[BQ,aX,Sl.er,ak,Dh]
          ·rfl
         ·rfl
theorem nf:∀(rows:List (List DT)),ce (rows.map erL)=ce rows
 |[]=>rfl
 |r::rs=>by
  match r with
  |[]=>rfl
  |u::v::q =>
   cases u with
   |v x =>
    cases x with
    |int k n=>cases k<;>simp[ce,ca]
    |_=>simp[ce,ca]
   |any=>simp[ce,lH]
   |s k d z r=>simp[ce,ak]
  |[.any]=>rfl
  |[.s k d z rows]=>simp[ak,ce]
  |[.v (.int .u8 n)]=>simp only[Cc,Cu,ca,ce,nf rs]
  |[.v x]=>
   cases x with
   |int k n=>cases k<;>first|rfl|simp only[Cc,Cu,ca,ce,nf rs]
   |_=>rfl
theorem uv (tab:Tab)(D:DSt)(a dst:Nat)(x:Operand):ge mkU tab (erD D) a dst x=(ge mkD tab D a dst x).map (List.map erL):=by
 unfold ge;rw[cC];cases tab.ti a with
 |none=>rfl
 |some ti =>
  obtain⟨_,_,_,sh⟩:=ti;cases sh<;>try rfl
  rename_i e;cases tab.ti dst with
  |none=>rfl
  |some b =>
   obtain⟨_,_,_,c⟩:=b;cases c<;>try rfl
   cases cellsCopy mkD D x with
   |none=>rfl
   |some r =>
    obtain⟨g,ts⟩:=r;cases g with
    |true=>rfl
    |false =>
     match ts with
     |[]=>rfl
     |[.v v]=>rfl
     |[.any]=>rfl
     |u::v::r=>(cases u with|s k d z f=>simp[ak]|_=>rfl)
     |[.s k d z rows]=>
      simp only[BQ,Cc,Cu,ak];by_cases hz:z=1
      ·subst hz;simp only;split
       ·rfl
       ·rfl
      ·simp[hz]
theorem pP (D:DSt)(x:Operand):dV (erD D) x=(dV D x).map (List.map fun r=>(r.1,erL r.2)):=by
 unfold dV;cases x with
 |tmp t =>
  simp only[aF];cases D[t]? with
  |none=>rfl
  |some s =>
   cases s with
   |tup rs =>
    simp only[BQ,Sl.er];have a:((rs.map fun r=>(r.1,erL r.2)).all fun r=>r.2.all T.flat)=rs.all fun r=>r.2.all T.flat:=by rw[CQ];congr 1;funext r;show(erL r.2).all T.flat=_;rw[CQ];congr 1;funext u;exact lJ u
    have b:(rs.map fun r=>(r.1,erL r.2))≠[]↔rs≠[]:=by cases rs<;>simp
    by_cases h:(rs.all fun r=>r.2.all T.flat)=true∧rs≠[]
    ·rw[BZ h,BZ ⟨a.trans h.1,b.2 h.2⟩];rfl
    ·rw[Cd h,Cd (fun g=>h ⟨a.symm.trans g.1,b.1 g.2⟩)];rfl
   |_=>rfl
 |_=>rfl
theorem vV (D:DSt)(x:Operand)(dst:Option Nat):gN (erD D) x dst=(gN D x dst).map erD:=by
 cases x with
 |tmp t =>
  cases dst with
  |none=>rfl
  |some d =>
   simp only[gN,aF];cases D[t]? with
   |none=>rfl
   |some s =>
    cases s with
    |tup rs =>
     simp only[BQ,Sl.er,bU];have a:((rs.map fun r=>(r.1,erL r.2)).all fun r=>r.2.all T.noLent)=rs.all fun r=>r.2.all T.noLent:=by rw[CQ];congr 1;funext r;exact bT T.noLent T.noLent b4 r.2
     rw[a];split
     ·simp only[BQ,aX,cp,Sl.er]
     ·rfl
    |_=>rfl
 |_=>cases dst<;>rfl
theorem vU (s:Ej):(da s:List (List DT)).map erL=da s:=by unfold da;rw[Ct];exact Cl fun b _=>by simp[ca]
theorem rK (w:World)(tab:Tab)(D:DSt)(dst:Option Nat)(a t:Nat)(x:Operand):dh mkU frU tab (erD D) dst a t x=(dh mkD (frD w) tab D dst a t x).map erD:=by
 unfold dh;rw[a5];cases tab.ti a with
 |none=>rfl
 |some ti =>
  obtain⟨_,_,_,sh⟩:=ti;cases sh<;>try rfl
  cases tab.ti t with
  |none=>rfl
  |some b =>
   obtain⟨_,_,_,c⟩:=b;cases c<;>try rfl
   rename_i e;cases dst with
   |none=>rfl
   |some d =>
    cases f:opd mkD.nil D x with
    |none=>rfl
    |some s =>
     cases s with
     |one u =>
      cases u with
      |v y =>
       cases y with
       |string s =>
        simp only[BQ,Sl.er,ca,bU];split
        ·split
         ·simp only[BQ,aX,Sl.er,ak,vU]
         ·rfl
        ·rfl
       |_=>rfl
      |any=>rfl
      |s k g z r=>simp[Sl.er,ak]
     |_=>rfl
theorem uC (tab:Tab)(D:DSt)(t:Nat)(p:Operand)(z:Nat):iw mkU tab (erD D) t p z=(iw mkD tab D t p z).map erD:=by
 unfold iw;cases tab.ti t with
 |none=>rfl
 |some ti =>
  simp only;split
  ·rw[a5];cases opd mkD.nil D p with
   |none=>rfl
   |some a=>exact pO D a [.s .own nilD z []]
  ·rfl
theorem vQ (us:List DT):(erL us).all (fun u=>u.isOwn ||u.flat)=us.all (fun u=>u.isOwn ||u.flat):=by show(us.map T.er).all _=_;rw[CQ];congr 1;funext u;show(u.er.isOwn ||u.er.flat)=_;rw[bw,lJ]
theorem qy (w:World)(tab:Tab)(D:DSt)(dst:Option Nat)(t len:Nat)(a:List (Nat×Operand)):ef mkU frU tab (erD D) dst t len a=(ef mkD (frD w) tab D dst t len a).map erD:=by
 unfold ef;split
 ·rename_i sz b f e d x c;simp only[di];cases tab.ti e with
  |none=>rfl
  |some h =>
   cases cellsTake mkD D x with
   |none=>rfl
   |some r =>
    obtain⟨g,us,D1⟩:=r;simp only[BQ,bU,Ci,vQ];split
    ·simp only[BQ,aX,Sl.er,ak,Cc,Cu]
    ·rfl
 ·rfl
theorem wS (tab:Tab)(D:DSt)(dst:Option Nat)(t:Nat)(a:List (Nat×Operand)):iQ mkU tab (erD D) dst t a=(iQ mkD tab D dst t a).map erD:=by
 unfold iQ;split
 ·rename_i ti pl i x r d b c;simp only[di];cases pl[i]? with
  |none=>rfl
  |some os =>
   obtain⟨off,size⟩:=os;cases cellsTake mkD D x with
   |none=>rfl
   |some q =>
    obtain⟨g,us,D1⟩:=q;simp only[BQ,bU,Ci];split
    ·have e:am (ti.zero.map (T.inj mkU.nil)) off (erL us)=erL (am (ti.zero.map (T.inj mkD.nil)) off us):=by rw[ip,d4]
     rw[e,fj];cases aZ mkD D1 pl r (am (ti.zero.map (T.inj mkD.nil)) off us)with
     |none=>rfl
     |some ts=>simp only[BQ,aX,Sl.er]
    ·rfl
 ·rfl
theorem mo (D:DSt)(x:Operand):dT (erD D) x=dT D x:=by
 cases x with
 |tmp t =>
  simp only[dT,aF];cases D[t]? with
  |none=>rfl
  |some s =>
   simp only[BQ];have a:∀ts:List DT,(erL ts).any T.isOwn=ts.any T.isOwn:=fun ts=>by rw[erL,DU];congr 1;funext t;exact bw t
   cases s with
   |one t=>exact bw t
   |agg ts=>exact a ts
   |tup rs =>simp only[Sl.er,Sl.isHome,DU];congr 1;funext r;exact a r.2
   |_=>rfl
 |_=>rfl
theorem vL (tab:Tab)(D:DSt)(dst:Option Nat)(t:Nat)(a:List (Nat×Operand)):kj mkU tab (erD D) dst t a=(kj mkD tab D dst t a).map erD:=by
 unfold kj;simp only[mo];split
 ·rename_i ti pl i x r d b c e;simp only[di,ip,fj];cases pl[i]? with
  |none=>rfl
  |some os =>
   obtain⟨off,size⟩:=os;cases cellsTake mkD D x with
   |none=>rfl
   |some q =>
    obtain⟨g,us,D1⟩:=q;cases aZ mkD D pl (a.takeWhile (fun p => !dT D p.2)) (ti.zero.map (T.inj mkD.nil))with
    |none=>rfl
    |some ts0 =>
     simp only[BQ,bU,Ci,bT T.noLent T.noLent b4];split
     ·rw[←d4,fj];cases aZ mkD D1 pl r (am ts0 off us)with
      |none=>rfl
      |some ts=>simp only[BQ,aX,Sl.er]
     ·rfl
 ·rfl
theorem na (pl:List (Nat×Nat)):∀(a:List (Nat×Operand))(D:DSt)(ts:List DT),gP mkU pl a (erD D) (erL ts)=(gP mkD pl a D ts).map fun r=>(erL r.1,erD r.2)
 |[],D,ts=>rfl
 |(i,x)::r,D,ts=>by
  have b:∀us:List DT,(erL us).all T.noLent=us.all T.noLent:=fun us=>bT T.noLent T.noLent b4 us
  have hz:∀us:List DT,(erL us).length=us.length:=fun us=>Ci _
  simp only[gP,mo,di,cC];cases pl[i]? with
  |none=>rfl
  |some os =>
   obtain⟨off,size⟩:=os;simp only;split
   ·cases cellsTake mkD D x with
    |none=>rfl
    |some p =>
     obtain⟨g,us,D1⟩:=p;simp only[BQ,b,hz];split
     ·rw[←d4,na pl r D1]
     ·rfl
   ·cases cellsCopy mkD D x with
    |none=>rfl
    |some p =>
     obtain⟨g,us⟩:=p;simp only[BQ,b,hz];split
     ·rw[←d4,na pl r D]
     ·rfl
theorem wR (tab:Tab)(D:DSt)(dst:Option Nat)(t:Nat)(a:List (Nat×Operand)):lF mkU tab (erD D) dst t a=(lF mkD tab D dst t a).map erD:=by
 unfold lF;cases tab.ti t with
 |none=>rfl
 |some ti =>
  cases tab.pl t with
  |none=>rfl
  |some pl =>
   cases dst with
   |none=>rfl
   |some d =>
    simp only;have b:(ti.zero.map (T.inj mkU.nil))=erL (ti.zero.map (T.inj mkD.nil)):=ip ti;rw[b,bT T.noLent T.noLent b4,na];split
    ·cases gP mkD pl a D (ti.zero.map (T.inj mkD.nil))with
     |none=>rfl
     |some p =>
      obtain⟨ts,D'⟩:=p;simp only[BQ,bU];split
      ·simp only[BQ,aX];rfl
      ·rfl
    ·rfl
theorem vM (tab:Tab)(D:DSt)(dst:Option Nat)(t:Nat)(a:List (Nat×Operand)):iz mkU tab (erD D) dst t a=(iz mkD tab D dst t a).map erD:=by
 unfold iz;rw[wS,vL,wR];have h:nW (erD D) a=nW D a:=by unfold nW;simp only[mo]
 rw[h];split
 ·rfl
 ·cases iQ mkD tab D dst t a<;>rfl
theorem yi (w:World)(tab:Tab)(D:DSt)(o:Oper)(tk:Bool):bn mkU frU tab (erD D) o tk=(bn mkD (frD w) tab D o tk).map erD:=by
 obtain⟨dst,op,ty,pos,after,guard⟩:=o;cases op with
 |store t p x =>
  cases dst with
  |none =>
   simp only[bn];cases jT tab t x with
   |some z=>exact uC tab D t p z
   |none=>exact vT tab D t p x tk
  |some d=>rfl
 |alloc t=>exact vK w tab D dst t
 |box t x=>exact xZ w D dst x tk
 |move x =>
  simp only[bn];cases jT tab ty x with
  |some z=>exact iB D dst (.one (.s .own nilD z []))
  |none =>
   simp only[pP];cases dV D x with
   |some rs=>exact iB D dst (.tup rs)
   |none =>
    cases tk with
    |true =>
     simp only[CI,vV];cases gN D x dst with
     |some D'=>rfl
     |none=>exact ow D x dst
    |false=>exact fA tab D (.move x) dst
 |assign x =>
  simp only[bn];cases jT tab ty x with
  |some z=>exact iB D dst (.one (.s .own nilD z []))
  |none =>
   cases tk with
   |true=>exact ow D x dst
   |false=>exact fA tab D (.assign x) dst
 |load t x =>
  cases tk with
  |true=>exact uy tab D t x dst
  |false=>exact fA tab D (.load t x) dst
 |extract x i=>exact sT D dst x i
 |buildSlice t len a =>
  cases tk with
  |true=>exact qy w tab D dst t len a.toList
  |false=>exact kR w tab D dst t len a.toList
 |makeSlice t l c=>exact lL w tab D dst t l c
 |call c =>
  simp only[bn];cases lC c with
  |none=>exact fA tab D (.call c) dst
  |some q =>obtain⟨t,e,s,x⟩:=q;exact ut w tab D dst t e s x
 |convert b d x =>
  simp only[bn];rw[uv];cases ge mkD tab D b d x with
  |none =>
   simp only[Eg];rw[rK w];cases dh mkD (frD w) tab D dst b d x with
   |none=>exact fA tab D (.convert b d x) dst
   |some g=>rfl
  |some rows =>
   simp only[BQ,nf];cases ce rows with
   |none=>rfl
   |some xs=>simp only[BU];exact iB D dst (.one (.v (.string (strOfNums xs))))
 |makeFunc fn first caps =>
  cases fn with
  |func f =>
   simp only[bn];split
   ·rw[x7];cases mh D f caps.toList with
    |none=>rfl
    |some s=>simp only[BQ,BU];exact iB D dst s
   ·rfl
  |_=>rfl
 |build t a =>
  cases tk with
  |true=>exact vM tab D dst t a.toList
  |false =>
   simp only[bn,Ch,CD,pJ];cases gB mkD tab D t a.toList with
   |none=>rfl
   |some s=>simp only[BQ,BU];exact iB D dst s
 |_=>simp only[bn];exact fA tab D _ dst
section
variable  {δ β : Type}
def jw (D:St δ β):List Nat→Option (List (β×List (T δ)))
 |[]=>some []
 |h::hs=>match D[h]? with|some (.box b ts)=>(jw D hs).map fun r=>(b,ts.map (T.view .far))::r|_=>none
def ims (caps:List (β×List (T δ))):List (Sl δ β):=caps.map fun p=>.im .far p.1 p.2 0
def argOf (M:Mk δ β)(D:St δ β)(x:Operand):Option (Sl δ β):=
 match opd M.nil D x with
 |some (.im _ b ts off)=>some (.im .far b ts off)
 |some (.pb h off)=>match D[h]? with|some (.box b ts)=>some (.im .far b (ts.map (T.view .far)) off)|_=>none
 |some (.fni f caps)=>some (.fni f caps)
 |some (.pe _ _ _ _ _)=>none
 |some (.clo (.fn f) hs)=>(jw D hs).map (.fni f ·)
 |_=>(cellsCopy M D x).bind fun p=>cU p.1 (p.2.map (T.view .far))
def argsOf (M:Mk δ β)(D:St δ β):List Operand→Option (List (Sl δ β))|[]=>some []|x::xs=>(argOf M D x).bind fun s=>(argsOf M D xs).map fun r=>s::r
end
def Out (cx:Cx)(D:DSt)(X:List Nat):Prop:=∀b∈X,cx.may b∧az D b=0
theorem Out.nil (cx:Cx)(D:DSt):Out cx D []:=fun b h=>by cases h
def zH:Kd := .lent qK 0 false
structure AOk (w:World)(X:List Nat)(Y:Nat→Prop)(a:DSl)(y:Value):Prop where
 val:∀D,VS D a y
 mem:MemS w a
 kind:∀D,D.length≤qK→bZ ⟨w,X,Y⟩ D a
 own:∀b∈ownBl a,b∈X∧b<w.heap.size
theorem dS {a:DSl}(h:a.isHome=false):ownBl a=[]:=by
 cases a with
 |one t=>exact bW h
 |agg ts =>
  show ts.flatMap ownR=[];rw[Ca];intro t c;refine bW ?_;cases d:t.isOwn with
  |false=>rfl
  |true =>have:ts.any T.isOwn=false:=h;rw[Dp]at this;exact absurd d (this t c)
 |box b ts=>cases h
 |tup rs =>
  show(rs.flatMap fun r=>r.2.flatMap ownR)=[];have e:(rs.any fun r=>r.2.any T.isOwn)=false:=h;rw[Dp]at e;rw[Ca];intro r f;rw[Ca];intro t c;refine bW ?_;cases d:t.isOwn with
  |false=>rfl
  |true=>exact absurd (C4.2 ⟨t,c,d⟩) (e r f)
 |_=>rfl
theorem ep {w:World}{X:List Nat}{a:DSl}(h:ownBl a=[]):∀b∈ownBl a,b∈X∧b<w.heap.size:=fun b hb=>by rw[h]at hb;cases hb
theorem zV {w:World}{b:Nat}(h:b<w.heap.size):(Cx.mk w [] noY).far b:=⟨⟨h,by simp⟩,id⟩
theorem Inv.keepX {cx:Cx}{D:DSt}{P:List (DT×Value)}{tm:Array Value}{w:World}(I:Inv cx D P tm w){X:List Nat}(a:Out cx D X){b:Nat}(h:cx.keep b):(Cx.mk w X noY).far b :=
 ⟨⟨Cr h.1 I.frame.size,fun q=>Cx.keep_not h (a b q).1⟩,id⟩
theorem Inv.farX {cx:Cx}{D:DSt}{P:List (DT×Value)}{tm:Array Value}{w:World}(I:Inv cx D P tm w){X:List Nat}(a:Out cx D X){b:Nat}(h:cx.far b):(Cx.mk w X noY).far b :=
 ⟨⟨Cr h.1.1 I.frame.size,fun hb=>Cx.far_not h (a b hb).1⟩,id⟩
theorem Inv.farY {cx:Cx}{D:DSt}{P:List (DT×Value)}{tm:Array Value}{w:World}(I:Inv cx D P tm w){X:List Nat}(a:Out cx D X){Y:Nat→Prop}(c:∀b,cx.far b→¬Y b){b:Nat}(h:cx.far b):(Cx.mk w X Y).far b :=
 ⟨(I.farX a h).1,c b h⟩
theorem AOk.viewsK {w:World}{X:List Nat}{Y:Nat→Prop}{ts:List DT}{ys:List Value}{g:Bool}{y:Value}{s:DSl}{k:Kd}(o:k ≠ .own)(hv:VCells ts ys)(hh:∀t∈ts,Holds w t)(j:∀D:DSt,D.length≤qK→∀t∈ts.map (T.view k),aB ⟨w,X,Y⟩ D t)
  (f:aP g y ys) (hs:cU g (ts.map (T.view k))=some s):AOk w X Y s y∧s.isHome=false:=by
 have l:∀t∈ts.map (T.view k),Holds w t:=by intro t a;obtain⟨u,b,rfl⟩:=B7.1 a;exact gA (hh u b)
 have c:∀t∈ts.map (T.view k),t.isOwn=false:=by intro t a;obtain⟨u,b,rfl⟩:=B7.1 a;exact iY o u
 have m:VCells (ts.map (T.view k)) ys:=by refine⟨by simpa using hv.1,fun i t y hi f=>?_⟩;rw[B6,BS]at hi;obtain⟨u,b,rfl⟩:=hi;exact ki.2 (hv.2 i u y b f)
 have n:(ts.map (T.view k)).flatMap ownR=[]:=by rw[Ca];intro t a;exact bW (c t a)
 generalize ts.map (T.view k)=us at *;unfold cU at hs;split at hs
 ·cases hs;refine⟨⟨fun D=>⟨ys.toArray,by simpa[aP]using f,by simpa using m⟩,⟨l,fun t a d=>?_,trivial⟩,fun D h t a=>j D h t a,ep n⟩,by show us.any T.isOwn=false;rw[Dp];exact fun t a=>by rw[c t a];exact CF⟩;rw[c t a]at d;cases d
 ·rename_i t;cases hs;have e:ys=[y]:=by simpa[aP]using f
  subst e;refine⟨⟨fun D=>m.2 0 t y rfl rfl,⟨fun u b=>l u (by simpa[af]using b),fun u b d=>?_,trivial⟩,fun D h u b=>j D h u (by simpa[af]using b),ep (by simpa[ownBl]using n)⟩,c _ (Cj _)⟩;have:=c u (by simpa[rootsO]using b);rw[this]at d;cases d
 ·cases hs
theorem AOk.views {w:World}{X:List Nat}{Y:Nat→Prop}{ts:List DT}{ys:List Value}{g:Bool}{y:Value}{s:DSl}(hv:VCells ts ys)(hh:∀t∈ts,Holds w t)(hb:∀t∈ts,∀b∈bl t,(Cx.mk w X Y).far b)
  (a:aP g y ys) (hs:cU g (ts.map (T.view .far))=some s):AOk w X Y s y∧s.isHome=false :=
 AOk.viewsK (by intro q;cases q) hv hh (fun D _ t c=>by obtain⟨u,d,rfl⟩:=B7.1 c;exact lz (hb u d)) a hs
theorem AOk.viewsO {w:World}{X:List Nat}{Y:Nat→Prop}{ts:List DT}{ys:List Value}{g:Bool}{y:Value}{s:DSl}(hv:VCells ts ys)(hh:∀t∈ts,Holds w t)(hb:∀t∈ts,∀b∈bl t,(Cx.mk w X Y).keep b)
  (a:aP g y ys) (hs:cU g (ts.map (T.view zH))=some s):AOk w X Y s y∧s.isHome=false :=
 AOk.viewsK (by intro q;cases q) hv hh (fun D c t d=>by obtain⟨u,e,rfl⟩:=B7.1 d;exact lA c (hb u e)) a hs
theorem Inv.out_kind {cx:Cx}{D:DSt}{P:List (DT×Value)}{tm:Array Value}{w:World}(I:Inv cx D P tm w){X:List Nat}(a:Out cx D X){t:DT}(f:aB cx D t)(g:t.isOwn=false):∀b∈bl t,(Cx.mk w X noY).far b:=by
 intro b hb;cases t with
 |v x=>simp[bl]at hb
 |any=>simp[bl]at hb
 |s k d z r =>
  cases k with
  |own=>cases g
  |far=>exact I.farX a (f b hb)
  |lent h c p =>
   rcases f with⟨_,_,e⟩|⟨t',i,j,e,l⟩
   ·exact I.keepX a (e b hb)
   obtain⟨s,u,m,y,n,o⟩:=aO i;have A:=a8 (b:=b) m (o j b (e b hb));exact⟨⟨(I.bnd b (by omega)).2,fun q=>by have:=(a b q).2;omega⟩,id⟩
theorem Inv.out_own {cx:Cx}{D:DSt}{P:List (DT×Value)}{tm:Array Value}{w:World}(I:Inv cx D P tm w){X:List Nat}(a:Out cx D X){s:DSl}(hs:s∈D){b:Nat}(hb:b∈ownBl s):(Cx.mk w X noY).far b:=by have c:=a8 (b:=b) hs hb;exact⟨⟨(I.bnd b (by omega)).2,fun q=>by have:=(a b q).2;omega⟩,id⟩
theorem pC {D:DSt}:∀{hs:List Nat}{caps:List ((Nat×Nat)×List DT)},jw D hs=some caps→caps.length=hs.length ∧
  ∀(i h:Nat),hs[i]?=some h→∃(b:Nat×Nat) (ts:List DT),D[h]?=some (.box b ts)∧caps[i]?=some (b,ts.map (T.view .far))
 |[],caps,h=>by cases h;exact⟨rfl,fun i h e=>by simp at e⟩
 |h::hs,caps,e=>by
  unfold jw at e;split at e
  ·rename_i b ts hb;rw[BS]at e;obtain⟨r,a,rfl⟩:=e;obtain⟨c,d⟩:=pC a;refine⟨by simp[c],fun i f hi=>?_⟩;cases i with
   |zero=>simp at hi;subst hi;exact⟨b,ts,hb,rfl⟩
   |succ i=>simp at hi;simpa using d i f hi
  ·cases e
theorem Inv.boxFar {cx:Cx}{D:DSt}{P:List (DT×Value)}{tm:Array Value}{w:World}(I:Inv cx D P tm w){X:List Nat}(i:Out cx D X){h:Nat}{b:Nat×Nat}{ts:List DT}(hb:D[h]?=some (.box b ts)):
  (Cx.mk w X noY).far b.1∧Lies w b (ts.map (T.view .far))∧(∀u∈ts.map (T.view .far),Holds w u)∧∀u∈ts.map (T.view .far),∀x∈bl u,(Cx.mk w X noY).far x:=by
 have a:=BR hb;have l:=I.mem _ a;have k:∀t∈ts,∀x∈bl t,(Cx.mk w X noY).far x:=by
  intro t m x d;cases n:t.isOwn with
  |true=>exact I.out_own i a (by simp only[ownBl,Cq,B5];exact .inr ⟨t,m,by simp[ownR,n,d]⟩)
  |false=>exact I.out_kind i (I.kind _ a t m) n x d
 refine⟨I.out_own i a (by simp[ownBl]),?_,fun u g=>?_,fun u g x d=>?_⟩
 ·obtain⟨c,e,f,p,q⟩:=l.2.2.1;refine⟨c,e,f,p,fun j t o=>?_⟩;rw[B6,BS]at o;obtain⟨u,g,rfl⟩:=o;obtain⟨y,r,s⟩:=q j u g;exact⟨y,r,ki.2 s⟩
 ·obtain⟨v,hv,rfl⟩:=B7.1 g;exact gA (l.1 v hv)
 ·obtain⟨v,hv,rfl⟩:=B7.1 g;rw[yQ]at d;exact k v hv x d
theorem Inv.cloArg {cx:Cx}{D:DSt}{P:List (DT×Value)}{tm:Array Value}{w:World}(I:Inv cx D P tm w){X:List Nat}(j:Out cx D X){f:FuncId}{hs:List Nat}{caps:List ((Nat×Nat)×List DT)}(hc:jw D hs=some caps){y:Value}
  (hv:VS D (.clo (.fn f) hs) y):AOk w X noY (.fni f caps) y:=by
 obtain⟨k,u,r,rfl⟩:=hv;obtain⟨v,n⟩:=pC hc;have a:∀p∈caps,∃(h:Nat) (ts:List DT),D[h]?=some (.box p.1 ts)∧p.2=ts.map (T.view .far):=by
  intro p g;obtain⟨i,hi⟩:=BX g;have l:i<hs.length:=by
   rcases BY i caps.length with q|q
   ·omega
   ·rw[BV q]at hi;cases hi
  obtain⟨b,ts,c,d⟩:=n i hs[i] (BW l);rw[hi]at d;cases d;exact⟨_,ts,c,rfl⟩
 have m:k=caps.map (·.1):=by
  apply CP;intro i;rcases BY i hs.length with q|q
  ·obtain⟨b,ts,c,d⟩:=n i hs[i] (BW q);obtain⟨ts',o⟩:=r i hs[i] k[i] (BW q) (BW (by omega));rw[c]at o;cases o;rw[B6,d,BW (by omega)];rfl
  ·rw[BV (by omega),BV (by simp;omega)]
 refine⟨fun D=>?_,⟨fun t e=>?_,fun t e=>by simp[rootsO]at e,fun p g=>?_⟩,fun D _ p g=>?_,ep rfl⟩
 ·show sL (.fn f) k=_;simp only[sL,m,Ct];rfl
 ·simp only[af,B5]at e;obtain⟨p,g,e⟩:=e;obtain⟨h,ts,c,d⟩:=a p g;rw[d]at e;exact(I.boxFar j c).2.2.1 t e
 ·obtain⟨h,ts,c,d⟩:=a p g;rw[d];exact(I.boxFar j c).2.1
 ·obtain⟨h,ts,c,d⟩:=a p g;rw[d];exact⟨(I.boxFar j c).1,fun t e x s=>(I.boxFar j c).2.2.2 t e x s⟩
theorem AOk.ims {w:World}{X:List Nat}{Y:Nat→Prop}{f:FuncId}{caps:List ((Nat×Nat)×List DT)}{y:Value}(h:AOk w X Y (.fni f caps) y):∀(i:Nat)(a:DSl)(v:Value),(Am.ims caps)[i]?=some a→(caps.map fun b=>Value.pointer (some ⟨b.1.1,b.1.2,none⟩))[i]?=some v→AOk w X Y a v:=by
 intro i a v hi hv;unfold Am.ims at hi;rw[B6,BS]at hi hv;obtain⟨p,h1,rfl⟩:=hi;obtain⟨k,e,rfl⟩:=hv;rw[h1]at e;cases e;have c:=BR h1;have g:=h.mem;refine⟨fun D=>rfl,⟨fun t d=>?_,fun t d=>by simp[rootsO]at d,g.2.2 p c⟩,fun D j=>?_,ep rfl⟩
 ·exact g.1 t (by simp only[af,B5];exact⟨p,c,by simpa[af]using d⟩)
 ·have:=h.kind D j p c;exact⟨this.1,this.2⟩
theorem xq (caps:List ((Nat×Nat)×List DT)):(Am.ims caps).flatMap ownBl=[]:=by rw[Ca];intro s hs;obtain⟨p,_,rfl⟩:=B7.1 hs;rfl
theorem Inv.argOf {cx:Cx}{D:DSt}{P:List (DT×Value)}{a:Act}{w:World}(I:Inv cx D P a.tmps w){X:List Nat}(d:Out cx D X){x:Operand}{s:DSl}(e:argOf mkD D x=some s):AOk w X noY s (a.eval x)∧s.isHome=false:=by
 unfold Am.argOf at e;split at e
 ·rename_i k b ts off h;cases e;have i:=I.opd h;have A:=i.mem;have n:=i.kind;refine⟨⟨fun D=>i.val,⟨A.1,fun t c=>by simp[rootsO]at c,A.2.2⟩,fun D _=>?_,ep rfl⟩,rfl⟩;cases k with
  |own=>exact n.elim
  |far=>exact⟨I.farX d n.1,fun t c x j=>I.farX d (n.2 t c x j)⟩
  |lent K L M =>
   rcases n with⟨_,r,u⟩|⟨t',l,y,r,u⟩
   ·exact⟨I.keepX d r,fun t c x j=>I.keepX d (u t c x j)⟩
   obtain⟨s',B,o,C,H,q⟩:=aO l;exact⟨I.out_own d o (q y _ r),fun t c x j=>I.out_own d o (q y _ (u t c x j))⟩
 ·rename_i h off z;split at e
  ·rename_i b ts hb;cases e;have i:=I.opd z;obtain⟨N,ts',m,J⟩:=i.val;rw[hb]at m;cases m;obtain⟨B,o,C,q⟩:=I.boxFar d hb;exact⟨⟨fun D=>J,⟨fun t c=>C t (by simpa[af]using c),fun t c=>by simp[rootsO]at c,o⟩,fun D _=>⟨B,q⟩,ep rfl⟩,rfl⟩
  ·cases e
 ·rename_i f caps h;cases e;have i:=I.opd h;refine⟨⟨fun D=>i.val,i.mem,fun D _ p z=>?_,ep rfl⟩,rfl⟩;have:=i.kind p z;exact⟨I.farX d this.1,fun t c x j=>I.farX d (this.2 t c x j)⟩
 ·cases e
 ·rename_i f hs j;rw[BS]at e;obtain⟨caps,l,rfl⟩:=e;exact⟨I.cloArg d l (I.opd j).val,rfl⟩
 ·rw[BT]at e;obtain⟨⟨g,ts⟩,h,e⟩:=e;obtain⟨ys,G,hv⟩:=I.cellsCopy h;refine AOk.views G.v G.holds (fun t c b hb=>?_) hv e;cases F:t.isOwn with
  |false=>exact I.out_kind d (G.kind t c) F b hb
  |true =>have l:=G.cnt b;have y:0<(ts.flatMap ownR).count b:=B8.2 (B5.2 ⟨t,c,by simp[ownR,F,hb]⟩);rw[a6]at l;omega
def ArgsOk (w:World)(X:List Nat)(Y:Nat→Prop)(ad:List DSl)(c:List Value):Prop :=ad.length=c.length∧(∀(i:Nat)(a:DSl)(y:Value),ad[i]?=some a→c[i]?=some y→AOk w X Y a y)∧∀b,(ad.flatMap ownBl).count b≤1
theorem ArgsOk.nil (w:World)(X:List Nat)(Y:Nat→Prop):ArgsOk w X Y [] []:=⟨rfl,fun i a y h=>by simp at h,fun b=>by simp⟩
theorem ArgsOk.consH {w:World}{X:List Nat}{Y:Nat→Prop}{a:DSl}{y:Value}{as:List DSl}{ys:List Value}(h:AOk w X Y a y)(hc:∀b,(ownBl a).count b+(as.flatMap ownBl).count b≤1)(g:ArgsOk w X Y as ys):ArgsOk w X Y (a::as) (y::ys):=by
 refine⟨by simp[g.1],fun i d e hi c=>?_,fun b=>by rw[B9,Ce];exact hc b⟩;cases i with
 |zero=>simp at hi c;subst hi;subst c;exact h
 |succ i=>simp at hi c;exact g.2.1 i d e hi (by simpa using c)
theorem ArgsOk.consN {w:World}{X:List Nat}{Y:Nat→Prop}{a:DSl}{y:Value}{as:List DSl}{ys:List Value}(h:AOk w X Y a y)(hc:a.isHome=false)(g:ArgsOk w X Y as ys):ArgsOk w X Y (a::as) (y::ys):=
 ArgsOk.consH h (fun b=>by rw[dS hc];simpa using g.2.2 b) g
theorem vv {ad:List DSl}(h:∀a∈ad,a.isHome=false):ad.flatMap ownBl=[]:=by rw[Ca];exact fun a b=>dS (h a b)
section
variable  {δ β : Type}
def T.seen:T δ→Bool| .s .far _ _ _=>true| .s _ _ _ _=>false|_=>true
def opdFar (M:Mk δ β)(D:St δ β)(x:Operand):Bool :=
 match opd M.nil D x with
 |some (.one t)=>t.seen
 |some (.agg ts)=>ts.all T.seen
 |_=>false
end
theorem Inv.argOfF {cx:Cx}{D:DSt}{P:List (DT×Value)}{a:Act}{w:World}(I:Inv cx D P a.tmps w){X:List Nat}(i:Out cx D X){Y:Nat→Prop}(j:∀b,cx.far b→¬Y b){x:Operand}{s:DSl}(hf:Am.opdFar mkD D x=true)(e:Am.argOf mkD D x=some s):
  AOk w X Y s (a.eval x)∧s.isHome=false:=by
 have c:∀{g:Bool}{ts:List DT},Am.cellsCopy mkD D x=some (g,ts)→ts.all T.seen=true→cU g (ts.map (T.view .far))=some s→AOk w X Y s (a.eval x)∧s.isHome=false:=fun {g ts} h hs e=>by
  obtain⟨ys,G,hv⟩:=I.cellsCopy h;refine AOk.views G.v G.holds (fun t f b hb=>?_) hv e;have l:=B2.1 hs t f;have m:=G.kind t f;cases t with
  |v x=>simp[bl]at hb
  |any=>simp[bl]at hb
  |s k d z r=>cases k<;>first|exact I.farY i j (m b hb)|cases l
 unfold Am.opdFar at hf;unfold Am.argOf at e;split at hf
 ·rename_i t h;rw[h]at e;have hc:Am.cellsCopy mkD D x=some (false,[t]):=by unfold Am.cellsCopy;rw[h]
  refine c hc (by simpa using hf) ?_;rw[hc]at e;exact e
 ·rename_i ts h;rw[h]at e;have hc:Am.cellsCopy mkD D x=some (true,ts):=by unfold Am.cellsCopy;rw[h]
  refine c hc hf ?_;rw[hc]at e;exact e
 ·cases hf
theorem Inv.argsOf {w:World}{X:List Nat}{Y:Nat→Prop}{D:DSt}{a:Act}:∀{xs:List Operand}{ss:List DSl},(∀x∈xs,∀s,Am.argOf mkD D x=some s→AOk w X Y s (a.eval x)∧s.isHome=false)→Am.argsOf mkD D xs=some ss→ArgsOk w X Y ss (xs.map a.eval)∧∀a∈ss,a.isHome=false
 |[],ss,_,e=>by cases e;exact⟨ArgsOk.nil w X Y,fun a h=>by cases h⟩
 |x::xs,ss,b,e=>by
  simp only[Am.argsOf,BT,BS]at e;obtain⟨s,d,r,f,rfl⟩:=e;obtain⟨g,i⟩:=Inv.argsOf (fun y j=>b y (by simp[j])) f;obtain⟨k,c⟩:=b x (by simp) s d;exact⟨g.consN k c,fun l ha=>by
   rcases Cq.1 ha with rfl|ha
   ·exact c
   ·exact i l ha⟩
section
variable  {δ β : Type}
def argK (M:Mk δ β)(o:Bool)(D:St δ β)(x:Operand):Option (Sl δ β):=if o=true then(cellsCopy M D x).bind fun p=>cU p.1 (p.2.map (T.view zH))else argOf M D x
def argsK (M:Mk δ β)(o:Bool)(D:St δ β):List Operand→Option (List (Sl δ β))|[]=>some []|x::xs=>(argK M o D x).bind fun s=>(argsK M o D xs).map fun r=>s::r
def argsIo (M:Mk δ β)(o:Bool)(D:St δ β)(s:Sl δ β):Nat→List Operand→Option (List (Sl δ β))|_,[]=>none| 0,_::xs=>(argsK M o D xs).map fun r=>s::r|i+1,x::xs=>(argK M o D x).bind fun a=>(argsIo M o D s i xs).map fun r=>a::r
end
def OneHome (s:DSl)(y:Value):Nat→List DSl→List Value→Prop|_,[],_=>False|_,_::_,[]=>False| 0,a::as,v::_=>a=s∧v=y∧∀a∈as,a.isHome=false|i+1,a::as,_::b=>a.isHome=false∧OneHome s y i as b
theorem Inv.argO {cx:Cx}{D:DSt}{P:List (DT×Value)}{a:Act}{w:World}(I:Inv cx D P a.tmps w){X:List Nat}(f:Out cx D X){Y:Nat→Prop}{x:Operand}{s:DSl}(e:Am.argK mkD true D x=some s):AOk w X Y s (a.eval x)∧s.isHome=false:=by
 unfold Am.argK at e;rw[BZ rfl,BT]at e;obtain⟨⟨g,ts⟩,h,e⟩:=e;obtain⟨ys,G,hv⟩:=I.cellsCopy h;refine AOk.viewsO G.v G.holds (fun t c b hb=>?_) hv e;cases d:t.isOwn with
 |false=>exact(I.out_kind f (G.kind t c) d b hb).1
 |true =>have i:=G.cnt b;have j:0<(ts.flatMap ownR).count b:=B8.2 (B5.2 ⟨t,c,by simp[ownR,d,hb]⟩);rw[a6]at i;omega
theorem Inv.argsK {w:World}{X:List Nat}{Y:Nat→Prop}{D:DSt}{a:Act}{o:Bool}:∀{xs:List Operand}{ss:List DSl},(∀x∈xs,∀s,Am.argK mkD o D x=some s→AOk w X Y s (a.eval x)∧s.isHome=false)→Am.argsK mkD o D xs=some ss→ArgsOk w X Y ss (xs.map a.eval)∧∀a∈ss,a.isHome=false
 |[],ss,_,e=>by cases e;exact⟨ArgsOk.nil w X Y,fun a h=>by cases h⟩
 |x::xs,ss,b,e=>by
  simp only[Am.argsK,BT,BS]at e;obtain⟨s,d,r,f,rfl⟩:=e;obtain⟨g,i⟩:=Inv.argsK (fun y j=>b y (by simp[j])) f;obtain⟨k,c⟩:=b x (by simp) s d;exact⟨g.consN k c,fun l ha=>by
   rcases Cq.1 ha with rfl|ha
   ·exact c
   ·exact i l ha⟩
theorem Inv.argsIo {w:World}{X:List Nat}{Y:Nat→Prop}{D:DSt}{a:Act}{s:DSl}{x:Operand}{o:Bool}(hs:AOk w X Y s (a.eval x))(l:∀b,(ownBl s).count b≤1):
  ∀{i:Nat}{xs:List Operand}{ss:List DSl},(∀x∈xs.eraseIdx i,∀s,Am.argK mkD o D x=some s→AOk w X Y s (a.eval x)∧s.isHome=false)→xs[i]?=some x→Am.argsIo mkD o D s i xs=some ss→ArgsOk w X Y ss (xs.map a.eval)∧ss.flatMap ownBl=ownBl s∧OneHome s (a.eval x) i ss (xs.map a.eval)
 |_,[],ss,_,c,e=>by simp at c
 | 0,y::xs,ss,f,c,e=>by simp only[Am.argsIo,BS]at e;obtain⟨r,g,rfl⟩:=e;obtain⟨h,d⟩:=Inv.argsK (fun y j=>f y (by simpa using j)) g;simp at c;subst c;exact⟨h.consH hs fun b=>by rw[vv d];simpa using l b,by rw[B9,vv d,Cp],rfl,rfl,d⟩
 |i+1,y::xs,ss,f,c,e=>by simp only[Am.argsIo,BT,BS]at e;obtain⟨m,n,r,g,rfl⟩:=e;obtain⟨h,d,p⟩:=Inv.argsIo hs l (fun y j=>f y (by simp[j])) (by simpa using c) g;obtain⟨q,k⟩:=f y (by simp) m n;exact⟨h.consN q k,by rw[B9,dS k,d];rfl,k,p⟩
theorem vl (t:DT):t.er.seen=t.seen:=by
 cases t with
 |v x=>rfl
 |any=>rfl
 |s k d z r=>rw[ak];cases k<;>rfl
theorem rg (D:DSt)(x:Operand):opdFar mkU (erD D) x=opdFar mkD D x:=by
 simp only[opdFar,a5];cases opd mkD.nil D x with
 |none=>rfl
 |some s =>
  cases s with
  |one t=>exact vl t
  |agg ts=>exact bT T.seen T.seen vl ts
  |_=>rfl
theorem sR (D:DSt):∀(hs:List Nat),jw (erD D) hs=(jw D hs).map (List.map fun p=>((),erL p.2))
 |[]=>rfl
 |h::hs=>by
  simp only[jw,aF];cases D[h]? with
  |none=>rfl
  |some s =>
   cases s with
   |box b ts =>
    simp only[BQ,Sl.er,sR D hs];cases jw D hs with
    |none=>rfl
    |some r=>simp only[BQ,Cc,il]
   |_=>rfl
theorem wU (caps:List ((Nat×Nat)×List DT)):(ims caps).map Sl.er=ims (caps.map fun p=>((),erL p.2)):=by unfold ims;rw[Ct,Ct];rfl
theorem sN (D:DSt)(x:Operand):argOf mkU (erD D) x=(argOf mkD D x).map Sl.er:=by
 simp only[argOf,a5];have a:∀s:DSl,((cellsCopy mkU (erD D) x).bind fun p=>cU p.1 (p.2.map (T.view .far)))=((cellsCopy mkD D x).bind fun p=>(cU p.1 (p.2.map (T.view .far)):Option DSl)).map Sl.er:=by
  intro s;rw[cC];cases cellsCopy mkD D x with
  |none=>rfl
  |some p=>simp only[BQ,BU, ←il,ko]
 cases d:opd mkD.nil D x with
 |none=>exact a .any
 |some s =>
  cases s with
  |pb h off =>
   simp only[BQ,Sl.er,aF];cases D[h]? with
   |none=>rfl
   |some s=>cases s<;>first|rfl|simp only[BQ,Sl.er,il]
  |im k b ts off=>rfl
  |fni f caps=>rfl
  |pe h c st i off=>rfl
  |clo g hs =>
   cases g with
   |arr offs=>exact a .any
   |fn f =>
    simp only[BQ,Sl.er,sR];cases jw D hs with
    |none=>rfl
    |some r=>rfl
  |_=>exact a .any
theorem rc (D:DSt):∀(xs:List Operand),argsOf mkU (erD D) xs=(argsOf mkD D xs).map (List.map Sl.er)
 |[]=>rfl
 |x::xs=>by
  simp only[argsOf,sN,rc D xs];cases argOf mkD D x with
  |none=>rfl
  |some s =>
   simp only[BQ,BU];cases argsOf mkD D xs with
   |none=>rfl
   |some r=>rfl
theorem vg (o:Bool)(D:DSt)(x:Operand):argK mkU o (erD D) x=(argK mkD o D x).map Sl.er:=by
 unfold argK;split
 ·rw[cC];cases cellsCopy mkD D x with
  |none=>rfl
  |some p=>simp only[BQ,BU, ←il,ko]
 ·exact sN D x
theorem sO (o:Bool)(D:DSt):∀(xs:List Operand),argsK mkU o (erD D) xs=(argsK mkD o D xs).map (List.map Sl.er)
 |[]=>rfl
 |x::xs=>by
  simp only[argsK,vg,sO o D xs];cases argK mkD o D x with
  |none=>rfl
  |some s =>
   simp only[BQ,BU];cases argsK mkD o D xs with
   |none=>rfl
   |some r=>rfl
theorem rb (o:Bool)(D:DSt)(s:DSl):∀(i:Nat)(xs:List Operand),argsIo mkU o (erD D) s.er i xs=(argsIo mkD o D s i xs).map (List.map Sl.er)
 |_,[]=>by simp[argsIo]
 | 0,x::xs=>by
  simp only[argsIo,sO];cases argsK mkD o D xs with
  |none=>rfl
  |some r=>rfl
 |i+1,x::xs=>by
  simp only[argsIo,vg,rb o D s i xs];cases argK mkD o D x with
  |none=>rfl
  |some a =>
   simp only[BQ,BU];cases argsIo mkD o D s i xs with
   |none=>rfl
   |some r=>rfl
abbrev URes:=List (Bool×List (T Unit))
abbrev bA:=List (Bool×List DT)
def erR (rd:bA):URes:=rd.map fun r=>(r.1,erL r.2)
theorem ml (a b:bA):erR (a++b)=erR a++erR b:=by simp[erR]
def cf:DSl→List Nat| .box b _=>[b.1]|_=>[]
theorem yK {a:DSl}(h:a.isHome=false):cf a=[]:=by cases a<;>first|rfl|cases h
theorem zb {ad:List DSl}(h:∀a∈ad,a.isHome=false):ad.flatMap cf=[]:=by rw[Ca];exact fun a b=>yK (h a b)
def aJ (rd:bA):List Nat:=rd.flatMap fun r=>r.2.flatMap ownR
theorem gr (a b:bA):aJ (a++b)=aJ a++aJ b:=by simp[aJ]
inductive HK where|box|one|agg deriving DecidableEq
def bi {δ β:Type}:Sl δ β→Option HK| .box _ _=>some .box| .one u=>if u.isOwn=true then some .one else none| .agg ts=>if ts.any T.isOwn=true then some .agg else none|_=>none
theorem rn {a:DSl}(h:a.isHome=false):bi a=none:=by
 cases a with
 |one t=>simp[bi,show t.isOwn=false from h]
 |agg ts=>simp only[bi,show ts.any T.isOwn=false from h];rfl
 |box b ts=>cases h
 |_=>rfl
theorem yu {a:DSl}(h:bi a=some .box):∃b ts,a = .box b ts:=by
 cases a with
 |box b ts=>exact⟨b,ts,rfl⟩
 |one u=>simp only[bi]at h;split at h<;>simp at h
 |agg ts=>simp only[bi]at h;split at h<;>simp at h
 |_=>simp[bi]at h
theorem o6 {a:DSl}(h:bi a=some .one):∃u,a = .one u:=by
 cases a with
 |box b ts=>simp[bi]at h
 |one u=>exact⟨u,rfl⟩
 |agg ts=>simp only[bi]at h;split at h<;>simp at h
 |_=>simp[bi]at h
theorem yt {a:DSl}(h:bi a=some .agg):∃ts,a = .agg ts:=by
 cases a with
 |box b ts=>simp[bi]at h
 |one u=>simp only[bi]at h;split at h<;>simp at h
 |agg ts=>exact⟨ts,rfl⟩
 |_=>simp[bi]at h
def pu (w':World)(a:DSl)(y:Value)(o:Bool×List DT):Prop :=
 match a with
 | .box b _=>o.1=true∧Lies w' b o.2∧Free w' b o.2.length
 | .one _=>VPart o y∧o.1=false
 | .agg _=>VPart o y∧o.1=true
 |_=>False
def OutsOk (w':World):List DSl→List Value→bA→Prop|[],_,od=>od=[]|a::as,y::ys,od=>if(bi a).isSome then ∃o r,od=o::r∧pu w' a y o∧OutsOk w' as ys r else OutsOk w' as ys od|_::_,[],_=>False
section
variable  {δ : Type}
def T.isFar:T δ→Bool| .s .far _ _ _=>true|_=>false
def fillF:List (T δ)→List (T δ)→List (T δ)|[],_=>[]|t::row,[]=>t::fillF row []| .any::row,f::fs=>f::fillF row fs|t::row,fs=>t::fillF row fs
end
def zU (w:World)(rd:bA)(v:Value):Prop :=∃(d:Dec) (z:Nat) (row fs:List DT),rd=[(false,.s .own d z [row]:: .any::fs)]∧v = .pointer (some ⟨d.b,d.o,none⟩)∧fs.all T.isFar=true∧Lies w (d.b,d.o) (fillF row fs)
def KindR (cx:Cx)(t:DT):Prop:=t.isOwn=true∨t.noLent=true∧∀x∈bl t,cx.far x
theorem KindR.fine {cx:Cx}{t:DT}(h:t.fine=true):KindR cx t:=by
 cases t with
 |v x=>exact .inr ⟨rfl,fun y a=>by simp[bl]at a⟩
 |any=>exact .inr ⟨rfl,fun y a=>by simp[bl]at a⟩
 |s k d z r=>cases k<;>first|exact .inl rfl|cases h
theorem KindR.noLent {cx:Cx}{t:DT}(h:KindR cx t):t.noLent=true:=by
 rcases h with h|h
 ·cases t with
  |s k d z r=>cases k<;>first|rfl|cases h
  |_=>rfl
 ·exact h.1
theorem KindR.at {cx:Cx}{D:DSt}{t:DT}(h:KindR cx t):aB cx D t:=by
 cases t with
 |v x=>trivial
 |any=>trivial
 |s k d z r =>
  cases k with
  |own=>trivial
  |far=>exact fun x a=>(h.elim (fun q=>by cases q) fun q=>q.2 x a)
  |lent b c e=>exact absurd h.noLent (by simp[T.noLent])
def ey (cx:Cx)(rd:bA):Prop:=∀r∈rd,∀t∈r.2,KindR cx t
structure RetOk (w:World)(X:List Nat)(Y:Nat→Prop)(w':World)(bx:List Nat)(od rd:bA)(v:Value):Prop where
 val:(∃r,rd=[r]∧VPart r v)∨(rd.length≠1∧VS [] (.tup rd) v)∨zU w' rd v
 kind:ey ⟨w,X,Y⟩ (od++rd)
 holds:∀r∈od++rd,∀t∈r.2,Holds w' t
 own:∀r∈od++rd,∀t∈r.2,t.isOwn=true→OwnT w' t
 once:∀b,(aJ (od++rd)).count b+bx.count b≤1
 new:∀b∈aJ (od++rd),(w.heap.size≤b∨b∈X)∧b<w'.heap.size
structure GrewH (X:List Nat)(w w':World):Prop where
 os:w'.os=w.os
 tape:w'.tape=w.tape
 output:w'.output=w.output
 size:w.heap.size≤w'.heap.size
 same:∀b,b<w.heap.size→b∉X→w'.heap[b]?=w.heap[b]?
theorem Grew.x {w w':World}(g:Grew w w')(X:List Nat):GrewH X w w':=⟨g.os,g.tape,g.output,g.size,fun b h _=>g.same b h⟩
theorem GrewH.grew {w w':World}(g:GrewH [] w w'):Grew w w':=⟨g.os,g.tape,g.output,g.size,fun b h=>g.same b h (by simp)⟩
abbrev Sem1:=FuncId→List (Sl Unit Unit)→Option URes
structure Base where
 n:Nat
 K:World→Prop
 stable:∀{w w':World},(∀b,b<n→w'.heap[b]?=w.heap[b]?)→K w→K w'
def Base.ok (B:Base)(w:World)(X:List Nat):Prop:=B.n≤w.heap.size∧(∀b∈X,B.n≤b)∧B.K w
def B0:Base:=⟨0,fun _=>True,fun _ h=>h⟩
theorem B0.ok (w:World)(X:List Nat):B0.ok w X:=⟨DI _,fun _ _=>DI _,trivial⟩
theorem Base.ok.at {B:Base}{cx:Cx}{D D':DSt}{d:List (DT×Value)}{tm:Array Value}{w:World}(h:B.ok cx.w0 cx.X)(I:Inv cx D d tm w){X:List Nat}(e:Out cx D' X):B.ok w X:=by
 obtain⟨a,c,f⟩:=h;refine⟨CH a I.frame.size,fun b hb=>?_,B.stable (fun b hb=>I.frame.same b ⟨Cr hb a,fun g=>Nat.not_le_of_lt hb (c b g)⟩) f⟩;rcases(e b hb).1 with h|h
 ·exact CH a h
 ·exact c b h
def CallsOk (P:Program)(B:Base)(C:Sem1):Prop :=∀(f:FuncId)(as:List (Sl Unit Unit))(rs:URes),C f as=some rs→∀(w:World)(X:List Nat)(Y:Nat→Prop)(ad:List DSl)(a:List Value),B.ok w X→ad.map Sl.er=as→ArgsOk w X Y ad a → Calls P f a.toArray w fun e w'=>∃v od rd,e = .returned v∧GrewH X w w'∧erR (od++rd)=rs∧OutsOk w' ad a od∧RetOk w X Y w' (ad.flatMap cf) od rd v
def cZ (P:Program)(B:Base)(C:Sem1)(cx:Cx):Prop:=CallsOk P B C∧B.ok cx.w0 cx.X
theorem OutsOk.none {w':World}:∀{ad:List DSl}{b:List Value}{od:bA},(∀a∈ad,a.isHome=false)→OutsOk w' ad b od→od=[]
 |[],_,_,_,h=>h
 |a::as,[],_,_,h=>h.elim
 |a::as,y::ys,od,hh,h=>by unfold OutsOk at h;rw[rn (hh a (by simp))]at h;exact OutsOk.none (fun c d=>hh c (by simp[d])) h
theorem OutsOk.one {w':World}{s:DSl}{y:Value}(hs:(bi s).isSome=true):∀{i:Nat}{ad:List DSl}{b:List Value}{od:bA},OneHome s y i ad b→OutsOk w' ad b od→∃o,od=[o]∧pu w' s y o
 |i,[],_,_,h,_=>by cases i<;>exact h.elim
 |i,a::as,[],_,h,_=>by cases i<;>exact h.elim
 | 0,a::as,v::b,od,h,g=>by obtain⟨rfl,rfl,c⟩:=h;unfold OutsOk at g;rw[hs]at g;obtain⟨o,r,rfl,d,e⟩:=g;rw[OutsOk.none c e];exact⟨o,rfl,d⟩
 |i+1,a::as,v::b,od,h,g=>by obtain⟨f,j⟩:=h;unfold OutsOk at g;rw[rn f]at g;exact OutsOk.one hs j g
theorem OneHome.box {s:DSl}{y:Value}:∀{i:Nat}{ad:List DSl}{b:List Value},OneHome s y i ad b→ad.flatMap cf=cf s
 |i,[],_,h=>by cases i<;>exact h.elim
 |i,a::as,[],h=>by cases i<;>exact h.elim
 | 0,a::as,v::b,h=>by obtain⟨rfl,rfl,c⟩:=h;rw[B9,show as.flatMap cf=[]from zb c,Cp]
 |i+1,a::as,v::b,h=>by rw[B9,yK h.1,h.2.box];rfl
section
variable  {δ β : Type}
def nar (M:Mk δ β)(n:Nat)(s:Sl δ β):Sl δ β :=
 match s with
 | .im k b ts off=>if n≠0∧(off≠0∨n≠ts.length)∧off+n≤ts.length then .im k (M.at_ (M.ptr b) off 1) ((ts.drop off).take n) 0 else .im k b ts off
 |s=>s
def narL (M:Mk δ β):List Nat→List (Sl δ β)→List (Sl δ β)|n::a,s::ss=>nar M n s::narL M a ss|_,ss=>ss
def argsW (M:Mk δ β)(tab:Tab)(f:FuncId)(D:St δ β)(xs:List Operand):Option (List (Sl δ β)):=(argsOf M D xs).map (narL M ((tab.pw.lookup f).getD []))
end
theorem zt (n:Nat)(s:DSl):nar mkU n s.er=(nar mkD n s).er:=by
 cases s with
 |im k b ts off =>
  simp only[nar,Sl.er,Ci];split
  ·simp only[Sl.er,erL,Dj,Dd]
  ·rfl
 |_=>rfl
theorem vj:∀(a:List Nat)(ss:List DSl),narL mkU a (ss.map Sl.er)=(narL mkD a ss).map Sl.er
 |[],ss=>by cases ss<;>rfl
 |n::a,[]=>rfl
 |n::a,s::ss=>by simp only[Cc,narL,zt,vj a ss]
theorem sP (tab:Tab)(f:FuncId)(D:DSt)(xs:List Operand):argsW mkU tab f (erD D) xs=(argsW mkD tab f D xs).map (List.map Sl.er):=by unfold argsW;rw[rc,CL,CL];congr 1;funext ss;exact vj _ ss
theorem AOk.nar {w:World}{X:List Nat}{Y:Nat→Prop}{a:DSl}{y:Value}(n:Nat)(h:AOk w X Y a y)(hh:a.isHome=false):AOk w X Y (Am.nar mkD n a) y∧(Am.nar mkD n a).isHome=false:=by
 cases a with
 |im k b ts off =>
  simp only[Am.nar];split
  ·rename_i hc;have hb:(mkD.at_ (mkD.ptr b) off 1)=(b.1,b.2+off):=by simp[mkD]
   rw[hb];have d:∀u∈(ts.drop off).take n,u∈ts:=fun u g=>CT (C6 g)
   have r:=h.mem;refine⟨⟨fun D=>?_,⟨fun u g=>r.1 u (d u g),fun u g=>by simp[rootsO]at g,?_⟩,fun D s=>?_,ep rfl⟩,rfl⟩
   ·have:=h.val D;exact this
   ·obtain⟨c,e,f,i,l⟩:=r.2.2;refine⟨c,e,f,i,fun j u m=>?_⟩;have p:ts[off+j]?=some u:=by
     rw[CR]at m;split at m
     ·rwa [CG]at m
     ·cases m
    obtain⟨z,v,x⟩:=l (off+j) u p;exact⟨z,by simpa[C2]using v,x⟩
   ·have o:=h.kind D s;cases k with
    |own=>exact o
    |far=>exact⟨o.1,fun u g=>o.2 u (d u g)⟩
    |lent B c C =>
     rcases o with⟨i,l,q⟩|⟨t,i,l,q,A⟩
     ·exact .inl ⟨i,l,fun u g=>q u (d u g)⟩
     ·exact .inr ⟨t,i,l,q,fun u g=>A u (d u g)⟩
  ·exact⟨h,hh⟩
 |_=>exact⟨h,hh⟩
theorem ArgsOk.narL {w:World}{X:List Nat}{Y:Nat→Prop}:∀(c:List Nat){ad:List DSl}{d:List Value},ArgsOk w X Y ad d→(∀s∈ad,s.isHome=false)→ArgsOk w X Y (Am.narL mkD c ad) d∧∀s∈Am.narL mkD c ad,s.isHome=false
 |[],ad,d,h,hh=>by cases ad<;>exact⟨h,hh⟩
 |n::c,[],d,h,hh=>⟨h,hh⟩
 |n::c,a::as,[],h,hh=>by have:=h.1;simp at this
 |n::c,a::as,y::ys,h,hh=>by
  have f:=h.2.1 0 a y rfl rfl;obtain⟨g,e⟩:=f.nar n (hh a (by simp));have j:ArgsOk w X Y as ys:=⟨by simpa using h.1,fun i k l m o=>h.2.1 (i+1) k l (by simpa using m) (by simpa using o),fun b=>by have:=h.2.2 b;rw[B9,Ce]at this;omega⟩
  obtain⟨p,q⟩:=ArgsOk.narL c j fun s hs=>hh s (by simp[hs])
  refine⟨p.consN g e,fun s hs=>?_⟩;rcases Cq.1 hs with rfl|hs
  ·exact e
  ·exact q s hs
theorem Inv.argsW {w:World}{X:List Nat}{Y:Nat→Prop}{D:DSt}{a:Act}{tab:Tab}{f:FuncId}{xs:List Operand}{ad:List DSl}(b:∀x∈xs,∀s,Am.argOf mkD D x=some s→AOk w X Y s (a.eval x)∧s.isHome=false)(e:Am.argsW mkD tab f D xs=some ad):
  ArgsOk w X Y ad (xs.map a.eval)∧∀s∈ad,s.isHome=false:=by
 unfold Am.argsW at e;rw[BS]at e;obtain⟨c,d,rfl⟩:=e;obtain⟨g,h⟩:=Inv.argsOf b d;exact g.narL _ h
section
variable  {δ β : Type}
def kq (M:Mk δ β)(fs:List (T δ)):T δ→Option (β×List (T δ))| .s .own d z [row]=>if row.all T.fine=true∧fs.all T.isFar=true then some (M.at_ d 0 z,fillF row fs)else none|_=>none
def mv (M:Mk δ β)(r:Bool×List (T δ)):Option (β×List (T δ)):=
 match r.1,r.2 with
 |false,t :: .any::fs=>kq M fs t
 |_,_=>none
def jB (M:Mk δ β):List (Bool×List (T δ))→Option (Sl δ β)
 |[r]=>match mv M r with|some (b,row)=>some (.box b row)|none=>cU r.1 r.2
 |rs=>some (.tup rs)
def putRet (M:Mk δ β)(D:St δ β)(dst:Option Nat)(rs:List (Bool×List (T δ))):Option (St δ β):=
 match dst with
 |none=>some D
 |some t=>if t<D.length then(jB M rs).map fun s=>av D (some t) s else none
def boolOf (M:Mk δ β)(D:St δ β)(x:Operand):Option Bool :=
 match opd M.nil D x with
 |some (.one (.v (.bool b)))=>some b
 |_=>none
end
theorem Inv.dropP {cx:Cx}{D:DSt}{P:List (DT×Value)}{tm:Array Value}{w:World}(I:Inv cx D P tm w):Inv cx D [] tm w where
 size:=I.size
 val:=I.val
 mem:=I.mem
 kind:=I.kind
 pend:=fun p a=>by cases a
 once:=fun b=>by have:=I.once b;rw[a6];omega
 bnd:=fun b hb=>I.bnd b (by rw[a6]at hb;omega)
 frame:=I.frame
def PendOf (P:List (DT×Value))(ts:List DT):Prop:=P.map (·.1)=ts∧∀p∈P,VT p.1 p.2
theorem PendOf.cnt {P:List (DT×Value)}{ts:List DT}(h:PendOf P ts)(b:Nat):aq P b=(ts.flatMap ownR).count b:=by unfold aq;rw[←h.1,De]
theorem cz:∀{ts:List DT},(∀t∈ts,∃y,VT t y)→∃P,PendOf P ts
 |[],_=>⟨[],rfl,fun p hp=>by cases hp⟩
 |t::ts,h=>by
  obtain⟨y,a⟩:=h t (by simp);obtain⟨P,b,c⟩:=cz (ts:=ts) fun u d=>h u (by simp[d])
  refine⟨(t,y)::P,by simp[b],fun p hp=>?_⟩;rcases Cq.1 hp with rfl|hp
  ·exact a
  ·exact c p hp
theorem VCells.each {ts:List DT}{ys:List Value}(h:VCells ts ys):∀t∈ts,∃y,VT t y:=by
 intro t b;obtain⟨i,hi⟩:=BX b;have a:i<ys.length:=by
  rw[←h.1];rcases BY i ts.length with g|g
  ·exact g
  ·rw[BV g]at hi;cases hi
 exact⟨_,h.2 i t ys[i] hi (BW a)⟩
theorem VPart.each {r:Bool×List DT}{y:Value}(h:VPart r y):∀t∈r.2,∃y,VT t y:=by
 unfold VPart at h;split at h
 ·obtain⟨cs,_,h⟩:=h;exact h.each
 ·obtain⟨t,b,c⟩:=h;intro u a;rw[b,B4]at a;subst a;exact⟨_,c⟩
theorem jA (rd:bA):aJ rd=(rd.flatMap (·.2)).flatMap ownR:=by unfold aJ;rw[List.flatMap_assoc]
theorem RetOk.each {w:World}{X:List Nat}{Y:Nat→Prop}{w':World}{bx:List Nat}{od rd:bA}{v:Value}(R:RetOk w X Y w' bx od rd v):∀t∈rd.flatMap (·.2),∃y,VT t y:=by
 intro t ht;obtain⟨r,a,ht⟩:=B5.1 ht;rcases R.val with⟨l,b,c⟩|⟨_,h,_,c,j⟩|⟨d,z,row,fs,b,_,e,_⟩
 ·rw[b,B4]at a;subst a;exact c.each t ht
 rotate_left
 ·rw[b,B4]at a;subst a;simp only[Cq]at ht;rcases ht with rfl|rfl|ht
  ·exact⟨_,rfl⟩
  ·exact⟨.bool true,rfl⟩
  ·have:=B2.1 e t ht;cases t with
   |s k d z r=>exact⟨_,rfl⟩
   |_=>cases this
 ·obtain⟨i,hi⟩:=BX a;have f:i<h.toList.length:=by
   rw[←c];rcases BY i rd.length with g|g
   ·exact g
   ·rw[BV g]at hi;cases hi
  exact(j i r h.toList[i] hi (BW f)).each t ht
theorem Inv.world {cx:Cx}{D:DSt}{P P':List (DT×Value)}{tm:Array Value}{w w':World}(I:Inv cx D P tm w){X:List Nat}(m:Out cx D X)(g:GrewH X w w')
  (o:∀p∈P',VT p.1 p.2∧Holds w' p.1∧(p.1.isOwn=true→OwnT w' p.1)∧(p.1.isOwn=false→∀x∈bl p.1,cx.far x))
  (G:∀b,0<aq P' b→aq P' b≤1∧az D b=0∧cx.may b∧b<w'.heap.size):Inv cx D P' tm w':=by
 have same:∀b,(Cx.mk w X noY).far b→w'.heap[b]?=w.heap[b]?:=fun b h=>g.same b h.1.1 h.1.2
 have j:∀s∈D,∀b∈ownBl s,(Cx.mk w X noY).far b:=fun s hs b hb=>I.out_own m hs hb
 have i:∀s∈D,∀t∈rootsO s,aB cx D t→∀b∈bl t,(Cx.mk w X noY).far b:=by
  intro s hs t a d b hb;cases y:t.isOwn with
  |false=>exact I.out_kind m d y b hb
  |true =>
   refine j s hs b ?_;have:b∈ownR t:=by simp[ownR,y,hb]
   cases s with
   |one u=>simp[rootsO]at a;subst a;exact this
   |agg ts=>exact B5.2 ⟨t,a,this⟩
   |box H ts=>exact Dq _ (B5.2 ⟨t,a,this⟩)
   |tup rs =>simp only[rootsO,B5]at a;obtain⟨r,L,a⟩:=a;exact B5.2 ⟨r,L,B5.2 ⟨t,a,this⟩⟩
   |_=>simp[rootsO]at a
 have l:∀(b:Nat)(ts:List DT)(k:Kd),iK cx D k b ts→(Cx.mk w X noY).far b∧∀t∈ts,∀x∈bl t,(Cx.mk w X noY).far x:=by
  intro b ts k d;cases k with
  |own=>exact d.elim
  |far=>exact⟨I.farX m d.1,fun t a x n=>I.farX m (d.2 t a x n)⟩
  |lent h c N =>
   rcases d with⟨_,B,C⟩|⟨t',F,A,B,C⟩
   ·exact⟨I.keepX m B,fun t a x n=>I.keepX m (C t a x n)⟩
   obtain⟨s,O,J,Q,M,K⟩:=aO F;exact⟨j s J _ (K A _ B),fun t a x n=>j s J _ (K A _ (C t a x n))⟩
 have lies:∀(b:Nat×Nat)(ts:List DT),(Cx.mk w X noY).far b.1→Lies w b ts→Lies w' b ts:=by rintro b ts hf ⟨c,e,f,F,A⟩;exact⟨c,e,f,by rw[same _ hf];exact F,A⟩
 refine⟨I.size,I.val,fun s hs=>?_,I.kind,o,fun b=>?_,fun b hb=>?_,?_⟩
 ·have v:=I.mem s hs;have d:=I.kind s hs;have roots:∀t∈af s,∀b∈bl t,(Cx.mk w X noY).far b:=by
   intro t a;cases s with
   |one u=>exact i _ hs t a (d t a)
   |agg ts=>exact i _ hs t a (d t a)
   |box H ts=>exact i _ hs t a (d t a)
   |tup rs=>exact i _ hs t a (d t a)
   |im k b ts off=>exact(l _ _ _ d).2 t a
   |fni f caps =>simp only[af,B5]at a;obtain⟨p,o,a⟩:=a;exact fun x n=>I.farX m ((d p o).2 t a x n)
   |_=>simp[af]at a
  refine⟨fun t a=>(v.1 t a).frame fun b hb _=>same b (roots t a b hb),fun t a y=>(v.2.1 t a y).frame fun b hb _=>same b (i s hs t a (by
   cases s with
   |one u=>exact d t a
   |agg ts=>exact d t a
   |box H ts=>exact d t a
   |tup rs=>exact d t a
   |_=>simp[rootsO]at a) b hb),?_⟩
  cases s with
  |box b ts =>have hf:=j _ hs b.1 (by simp[ownBl]);refine⟨lies b ts hf v.2.2.1,fun c e lo hi hc=>v.2.2.2 c e lo hi ?_⟩;rw[←same _ hf];exact hc
  |im k b ts off=>exact lies b ts (l _ _ _ d).1 v.2.2
  |fni f caps=>exact fun p o=>lies p.1 p.2 (I.farX m (d p o).1) (v.2.2 p o)
  |_=>trivial
 ·have q:=I.once b;rcases CE (aq P' b)with z|z
  ·omega
  ·have:=G b z;omega
 ·rcases CE (aq P' b)with z|z
  ·have:=I.bnd b (by omega);exact⟨this.1,Cr this.2 g.size⟩
  ·exact(G b z).2.2
 ·have f:=I.frame;exact⟨by rw[g.os,f.os],by rw[g.tape,f.tape],by rw[g.output,f.output],CH f.size g.size,fun b hb=>by rw[g.same b (Cr hb.1 f.size) fun q=>Cx.keep_not hb (m b q).1];exact f.same b hb⟩
theorem RetOk.pend {w:World}{X:List Nat}{Y:Nat→Prop}{w':World}{bx:List Nat}{od rd:bA}{v:Value}(R:RetOk w X Y w' bx od rd v){ts:List DT}(a:∀t∈ts,∃r∈od++rd,t∈r.2){P:List (DT×Value)}(d:PendOf P ts){cx:Cx}(f:ey cx (od++rd)):
  ∀p∈P,VT p.1 p.2∧Holds w' p.1∧(p.1.isOwn=true→OwnT w' p.1)∧(p.1.isOwn=false→∀x∈bl p.1,cx.far x):=by
 intro p e;obtain⟨r,b,c⟩:=a p.1 (by rw[←d.1];exact B7.2 ⟨p,e,rfl⟩);refine⟨d.2 p e,R.holds r b _ c,R.own r b _ c,fun g x h=>?_⟩;rcases f r b _ c with q|q
 ·rw[g]at q;cases q
 ·exact q.2 x h
theorem qC:∀{ts:List DT},(∀t∈ts,t.fine=true)→ts.flatMap bl=ts.flatMap ownR
 |[],_=>rfl
 |t::ts,h=>by
  rw[B9,B9,qC fun u a=>h u (by simp[a])];congr 1;have:=h t (by simp);cases t with
  |v x=>simp[ownR,T.isOwn,bl]
  |any=>simp[ownR,T.isOwn,bl]
  |s k d z r=>cases k<;>first|(simp[ownR,T.isOwn];done)|cases this
theorem iE:∀{row fs:List DT}{u:DT},u∈fillF row fs→u∈row∨u∈fs
 |[],fs,u,h=>by cases fs<;>cases h
 |t::row,[],u,h=>by
  rcases Cq.1 h with rfl|h
  ·exact .inl (by simp)
  ·exact(iE h).imp (fun q=>by simp[q]) fun q=>by cases q
 | .any::row,f::fs,u,h=>by
  rcases Cq.1 h with rfl|h
  ·exact .inr (by simp)
  ·exact(iE h).imp (fun q=>by simp[q]) fun q=>by simp[q]
 | .v x::row,f::fs,u,h=>by
  rcases Cq.1 h with rfl|h
  ·exact .inl (by simp)
  ·exact(iE h).imp (fun q=>by simp[q]) id
 | .s k d z r::row,f::fs,u,h=>by
  rcases Cq.1 h with rfl|h
  ·exact .inl (by simp)
  ·exact(iE h).imp (fun q=>by simp[q]) id
theorem li {t:DT}(h:t.isFar=true):ownR t=[]:=by
 cases t with
 |s k d z r=>cases k<;>first|rfl|cases h
 |_=>rfl
theorem jK:∀(row fs:List DT),(fillF row fs).length=row.length
 |[],fs=>by cases fs<;>rfl
 |t::row,[]=>by simp[fillF,jK row []]
 | .any::row,f::fs=>by simp[fillF,jK row fs]
 | .v x::row,f::fs=>by simp[fillF,jK row (f::fs)]
 | .s k d z r::row,f::fs=>by simp[fillF,jK row (f::fs)]
theorem jL:∀{row fs:List DT},fs.all T.isFar=true→(fillF row fs).flatMap ownR=row.flatMap ownR
 |[],fs,_=>by cases fs<;>rfl
 |t::row,[],h=>by simp only[fillF,B9,jL (row:=row) h]
 | .any::row,f::fs,h=>by simp only[List.all_cons,Cf]at h;simp only[fillF,B9,jL (row:=row) h.2,li h.1];rfl
 | .v x::row,f::fs,h=>by simp only[fillF,B9,jL (row:=row) h]
 | .s k d z r::row,f::fs,h=>by simp only[fillF,B9,jL (row:=row) h]
theorem RetOk.ptr {w:World}{X:List Nat}{Y:Nat→Prop}{w':World}{bx:List Nat}{od rd:bA}{v:Value}(R:RetOk w X Y w' bx od rd v){cx:Cx}(y:ey cx rd){r:Bool×List DT}(A:rd=[r]){b:Nat×Nat}{row:List DT}(i:mv mkD r=some (b,row)):
  v = .pointer (some ⟨b.1,b.2,none⟩)∧Lies w' b row∧Free w' b row.length∧(∀u∈row,Holds w' u∧(u.isOwn=true→OwnT w' u)∧KindR cx u)∧∀x,(b.1::row.flatMap ownR).count x=(aJ rd).count x:=by
 subst A;obtain⟨g,ts⟩:=r;unfold mv at i;split at i
 case h_2=>cases i
 rename_i t fs p m;simp only at p m;subst p;subst m;unfold kq at i;split at i
 case h_2=>cases i
 rename_i d z a;split at i
 case isFalse=>cases i
 rename_i hf;cases i;have h:∀u∈a,u.fine=true:=fun u hu=>B2.1 hf.1 u hu
 have hv:v = .pointer (some ⟨d.b,d.o,none⟩)∧Lies w' (d.b,d.o) (fillF a fs):=by
  rcases R.val with⟨S,k,l⟩|⟨k,_⟩|⟨U,V,n,B,k,l,_,C⟩
  ·cases k;simp only[VPart,Ch,CD]at l;obtain⟨t,D,_⟩:=l;cases D
  ·exact absurd rfl k
  ·simp only[CX,DC,T.s.injEq,Ei,Du]at k;obtain⟨⟨rfl,rfl,rfl⟩,rfl⟩:=k;exact⟨l,C⟩
 have F:=R.holds (false,.s .own d z [a]:: .any::fs) (by simp) (.s .own d z [a]) (by simp);have G:=R.own (false,.s .own d z [a]:: .any::fs) (by simp) (.s .own d z [a]) (by simp) rfl;have H:(mkD.at_ d 0 z)=(d.b,d.o):=by simp[mkD]
 rw[H];cases F with
 |s _ _ _ _ I W c e f Z q4 J q6 K =>
  have hz:=J 0 a rfl;cases G with
  |s _ _ _ p1 p2 c' e' lo hi L M p5 N O =>
   refine⟨hv.1,hv.2,fun c2 e2 P Q hc x k l=>?_,fun u hu=>?_,fun x=>?_⟩
   ·rw[L]at hc;cases hc;refine N x k ?_;have:1*z≤d.cap*z:=CV z (by simpa using M);rw[jK]at l;simp only at l;omega
   ·rcases iE hu with hu|hu
    ·obtain⟨j,q⟩:=BX hu;exact⟨K 0 a j u rfl q,fun _=>O 0 a j u rfl q,KindR.fine (h u hu)⟩
    ·exact⟨R.holds (false,.s .own d z [a]:: .any::fs) (by simp) u (by simp[hu]),R.own (false,.s .own d z [a]:: .any::fs) (by simp) u (by simp[hu]),y (false,.s .own d z [a]:: .any::fs) (by simp) u (by simp[hu])⟩
   ·have hz:fs.flatMap ownR=[]:=Ca.2 fun u hu=>li (B2.1 hf.2 u hu)
    have:aJ ([(false,.s .own d z [a]:: .any::fs)]:bA)=d.b::a.flatMap ownR:=by simp only[aJ,B9,Df,Cp,hz];simp only[ownR,T.isOwn,CI,bv,I];simp[←qC h]
    rw[this,jL hf.2]
theorem Inv.putRetP {cx:Cx}{D D':DSt}{P:List (DT×Value)}{a:Act}{w w':World}(I:Inv cx D P a.tmps w'){X:List Nat}{Y:Nat→Prop}{bx:List Nat}{od rd:bA}{v:Value}(R:RetOk w X Y w' bx od rd v)(l:ey cx rd)(q:PendOf P (rd.flatMap (·.2))){dst:Option Nat}
  (e:putRet mkD D dst rd=some D'):Inv cx D' [] (a.put dst v).tmps w':=by
 unfold Am.putRet at e;split at e
 ·cases e;exact I.dropP
 ·rename_i t;split at e
  case isFalse=>cases e
  rename_i y;rw[BS]at e;obtain⟨s,hs,rfl⟩:=e;have m:VS D s v∧(∀x,(ownBl s).count x≤(aJ rd).count x)∧(∀u∈af s,Holds w' u∧KindR cx u)∧(∀u∈rootsO s,u.isOwn=true→OwnT w' u)∧sw w' s∧(∀k b ts off,s ≠ .im k b ts off)∧(∀f caps,s ≠ .fni f caps):=by
   have j:∀r∈rd,∀u∈r.2,Holds w' u∧KindR cx u:=fun r g u c=>⟨R.holds r (by simp[g]) u c,l r g u c⟩
   have h:∀r∈rd,∀u∈r.2,u.isOwn=true→OwnT w' u:=fun r g u c A=>R.own r (by simp[g]) u c A
   unfold jB at hs;split at hs
   ·rename_i r;split at hs
    ·rename_i b row B;cases hs;obtain⟨C,F,G,n,H⟩:=R.ptr l rfl B;exact⟨C,fun x=>Nat.le_of_eq (H x),fun u c=>⟨(n u c).1,(n u c).2.2⟩,fun u c=>(n u c).2.1,⟨F,G⟩,by simp,by simp⟩
    ·rename_i J;obtain⟨K,ts⟩:=r;rcases R.val with⟨r,g,hv⟩|⟨i,_⟩|⟨d,z,row,fs,g,_,_,_⟩
     ·cases g;cases K with
      |true =>cases hs;simp only[VPart,CI]at hv;exact⟨hv,fun x=>by simp[ownBl,aJ],fun u c=>j _ (Cj _) u c,fun u c=>h _ (Cj _) u c,trivial,by simp,by simp⟩
      |false =>simp only[VPart,Ch,CD]at hv;obtain⟨t',rfl,o⟩:=hv;cases hs;exact⟨o,fun x=>by simp[ownBl,aJ],fun u c=>j _ (Cj _) u c,fun u c=>h _ (Cj _) u c,trivial,by simp,by simp⟩
     ·exact absurd rfl i
     ·cases g;cases hs
   ·rename_i i;cases hs;rcases R.val with⟨r,g,hv⟩|⟨_,hv⟩|⟨d,z,row,fs,g,_,_,_⟩
    ·exact absurd g (i r)
    ·refine⟨hv,fun x=>Cz _,fun u c=>?_,fun u c=>?_,trivial,by simp,by simp⟩
     ·simp only[af,B5]at c;obtain⟨r,g,c⟩:=c;exact j r g u c
     ·simp only[rootsO,B5]at c;obtain⟨r,g,c⟩:=c;exact h r g u c
    ·exact absurd g (i _)
  obtain⟨L,o,p,M,N,O,S⟩:=m;have U:bZ cx D s:=by
   have g:∀u∈af s,aB cx D u:=fun u c=>(p u c).2.at
   cases s with
   |im k b ts off=>exact absurd rfl (O k b ts off)
   |fni f caps=>exact absurd rfl (S f caps)
   |_=>exact g
  refine Inv.put (P:=P) (Q:=[]) (by simpa using I) y L ⟨fun u c=>(p u c).1,M,N⟩ U ?_;intro b;rw[q.cnt, ←jA];exact o b
theorem Inv.putRet {cx:Cx}{D D':DSt}{a:Act}{w w':World}(I:Inv cx D [] a.tmps w)(g:Grew w w'){bx:List Nat}{rd:bA}{v:Value}{Y:Nat→Prop}(R:RetOk w [] Y w' bx [] rd v)(c:ey cx rd){dst:Option Nat}
  (e:putRet mkD D dst rd=some D'):Inv cx D' [] (a.put dst v).tmps w':=by
 obtain⟨P,d⟩:=cz R.each;have i:=I.world (Out.nil cx D) (g.x []) (R.pend (fun t f=>by
  obtain⟨r,j,f⟩:=B5.1 f;exact⟨r,by simpa using j,f⟩) d (by simpa using c)) (fun b hb=>by
  rw[d.cnt, ←jA]at hb ⊢;have k:=R.once b;rw[Co]at k;obtain⟨l,m⟩:=R.new b (by rw[Co];exact B8.1 hb);have h:w.heap.size≤b:=l.elim id fun q=>by cases q
  refine⟨by omega,?_,.inl (CH I.frame.size h),m⟩;rcases CE (az D b)with q|q
  ·exact q
  ·have:=(I.bnd b (by omega)).2;omega)
 exact i.putRetP R c d e
theorem oY (t:DT):t.er.isFar=t.isFar:=by
 cases t with
 |v x=>rfl
 |any=>rfl
 |s k d z r=>rw[ak];cases k<;>rfl
theorem kz:∀(row fs:List DT),fillF (erL row) (erL fs)=erL (fillF row fs)
 |[],fs=>by cases fs<;>rfl
 |t::row,[]=>by show t.er::fillF (erL row) (erL [])=t.er::erL (fillF row []);rw[kz row []]
 | .any::row,f::fs=>by show f.er::fillF (erL row) (erL fs)=f.er::erL (fillF row fs);rw[kz row fs]
 | .v x::row,f::fs=>by show(.v x:T Unit)::fillF (erL row) (erL (f::fs))= .v x::erL (fillF row (f::fs));rw[kz row (f::fs)]
 | .s k d z r::row,f::fs=>by have e:(T.s k d z r:DT).er = .s k () z (r.map erL):=ak ..;show fillF ((T.s k d z r:DT).er::erL row) (erL (f::fs))=(T.s k d z r:DT).er::erL (fillF row (f::fs));rw[e, ←kz row (f::fs)];rfl
theorem vR (fs:List DT)(t:DT):kq mkU (erL fs) t.er=(kq mkD fs t).map fun p=>((),erL p.2):=by
 cases t with
 |v x=>rfl
 |any=>rfl
 |s k d z rows =>
  rw[ak]
  match rows with
  |[]=>cases k<;>rfl
  |[row]=>
   cases k with
   |own =>
    simp only[Cc,Cu,kq];rw[show(erL row).all T.fine=row.all T.fine from bT T.fine T.fine lI row,show(erL fs).all T.isFar=fs.all T.isFar from bT T.isFar T.isFar oY fs];split
    ·simp only[BQ,kz]
    ·rfl
   |far=>rfl
   |lent h c a=>rfl
  |r1::b::rs=>cases k<;>rfl
theorem ye (r:Bool×List DT):mv mkU (r.1,erL r.2)=(mv mkD r).map fun p=>((),erL p.2):=by
 obtain⟨g,ts⟩:=r;cases g with
 |true=>rfl
 |false =>
  match ts with
  |[]=>rfl
  |[t]=>rfl
  |t::u::ts =>
   cases u with
   |any=>exact vR ts t
   |v x=>rfl
   |s k d z r=>simp only[erL,Cc,Cu,ak];rfl
theorem s5 (rd:bA):(jB mkU (erR rd):Option (Sl Unit Unit))=(jB mkD rd:Option DSl).map Sl.er:=by
 match rd with
 |[]=>rfl
 |[r]=>
  simp only[erR,Cc,Cu,jB];rw[ye];cases mv mkD r with
  |none=>exact ko r.1 r.2
  |some p=>rfl
 |r::a::rs=>rfl
theorem rh (D:DSt)(dst:Option Nat)(rd:bA):putRet mkU (erD D) dst (erR rd)=(putRet mkD D dst rd).map erD:=by
 cases dst with
 |none=>rfl
 |some t =>
  simp only[putRet,bU];split
  ·rw[s5];cases(jB mkD rd:Option DSl)with
   |none=>rfl
   |some s=>simp only[BQ,aX]
  ·rfl
theorem wQ (D:DSt)(x:Operand):boolOf mkU (erD D) x=boolOf mkD D x:=by
 simp only[boolOf,a5];cases opd mkD.nil D x with
 |none=>rfl
 |some s =>
  cases s with
  |one u =>
   cases u with
   |s k d z r=>simp[Sl.er,ak]
   |v x=>cases x<;>rfl
   |any=>rfl
  |_=>rfl
theorem Inv.boolOf {cx:Cx}{D:DSt}{P:List (DT×Value)}{a:Act}{w:World}(I:Inv cx D P a.tmps w){x:Operand}{b:Bool}(e:boolOf mkD D x=some b):a.eval x = .bool b:=by
 unfold Am.boolOf at e;split at e
 ·rename_i c h;cases e;exact(I.opd h).val.1
 ·cases e
theorem Inv.lose {cx:Cx}{D:DSt}{tm:Array Value}{w:World}(I:Inv cx D [] tm w){t:Nat}(d:t<D.length):Inv cx (av D (some t) .any) [] tm w:=by
 have h:=Inv.put (P:=[]) (Q:=[]) (s := .any) (y:=tm.getD t undef) (by simpa using I) d trivial ⟨fun u a=>by simp[af]at a,fun u a=>by simp[rootsO]at a,trivial⟩
  (fun u a=>by simp[af]at a) (fun b=>by simp[ownBl])
 have c:t<tm.size:=by rw[←I.size];exact d
 have:tm.setIfInBounds t (tm.getD t undef)=tm:=by
  apply Array.ext
  ·simp
  ·intro i f g;rw[D5];split
   ·rename_i e;subst e;simp[Array.getD,c]
   ·rfl
 rw[this]at h;exact h
section
variable  {δ β : Type}
def T.rootOf:T δ→Option (Nat×Nat)| .s (.lent h c true) _ _ _=>some (h,c)|_=>none
def gY:Nat→List (T δ)→Option (Nat×Nat×Nat)
 |_,[]=>none
 |j,u::us=>match u.rootOf with|some (h,c)=>some (h,c,j)|none=>gY (j+1) us
def cl:List (T δ)→List (T δ)→List (T δ)|t::ts,u::us=>(if t.isOwn=true then t else u)::cl ts us|_,_=>[]
def ja (h:Nat):Nat→List (T δ)→List (T δ)→Bool|_,[],[]=>true|j,t::ts,u::us=>(if t.isOwn=true then decide (u.rootOf=some (h,j))else(u.noLent && !u.isOwn))&&ja h (j+1) ts us|_,_,_=>false
def aggNode (D:St δ β)(ts:List (T δ))(h c j:Nat):Option (Sl δ β×St δ β):=
 match ah D h c with
 |some (.s .own d z rows)=>if((ts.set j .any).all T.noLent=true∧(ts.set j .any).any T.isOwn=false)then(bD (fun _=>some .any) (St.dead (br h c) (qHC h c) D) h c []).map fun D'=>(.agg (ts.set j (.s .own d z rows)),D')else none
 |_=>none
def homeTake (D:St δ β)(x:Operand):Option (Sl δ β×St δ β):=
 match x with
 | .tmp t =>
  match D[t]? with
  |some (.box b ts)=>if ts.all T.noLent=true then some (.box b ts,au t D)else none
  |some (.pb h off)=>
   if off=0 then
    match D[h]? with
    |some (.box b ts)=>if ts.all T.noLent=true then some (.box b ts,au h D)else none
    |_=>none
   else none
  |some (.al h c st lo len)=>
   match bg D h c st with
   |some (.s .own d z rows)=>if lo=0∧len=rows.length then(bD (fun _=>some .any) (St.dead (br h c) (qHC h c) D) h c st).map fun D'=>(.one (.s .own d z rows),D')else none
   |_=>none
  |some (.one u)=>if u.isOwn=true then some (.one u,au t D)else
   match u.rootOf with
   |some (h,c)=>
    match ah D h c with
    |some (.s .own d z rows)=>(bD (fun _=>some .any) (St.dead (br h c) (qHC h c) D) h c []).map fun D'=>(.one (.s .own d z rows),D')
    |_=>none
   |none=>none
  |some (.agg ts)=>if ts.all T.noLent=true then(if ts.any T.isOwn=true then some (.agg ts,au t D)else none)else
   match gY 0 ts with
   |some (h,c,j)=>
    match D[h]? with
    |some (.box _ a)=>if ja h 0 a ts=true∧a.all T.noLent=true∧(cl a ts).any T.isOwn=true then some (.agg (cl a ts),au h D)else aggNode D ts h c j
    |_=>aggNode D ts h c j
   |none=>none
  |_=>none
 |_=>none
def fK (rows:List (List (T δ))):T δ→Option (T δ)| .s k d z _=>some (.s k d z rows)|_=>none
def eo:List (T δ)→List (T δ)→List (T δ)|t::ts,u::us=>(if t.isOwn=true then u else t)::eo ts us|_,_=>[]
def nodePut (D:St δ β)(h c:Nat)(u:T δ):Option (St δ β):=
 match ah D h c,u with
 |some (.s _ _ z _),.s .own _ b a=>if b=z then bD (fK a) (St.dead (br h c) (gK h c) D) h c []else none
 |_,_=>none
def homePut0 (D D1:St δ β)(x:Operand)(o:Bool×List (T δ)):Option (St δ β):=
 match x with
 | .tmp t =>
  match D[t]? with
  |some (.box b _)=>some (av D1 (some t) (.box b o.2))
  |some (.pb h _)=>
   match D[h]? with
   |some (.box b _)=>some (av D1 (some h) (.box b o.2))
   |_=>none
  |some (.al h c st _ _)=>
   match bg D h c st,o.2 with
   |some (.s _ _ z _),[.s .own _ f a]=>if f=z then bD (fK a) (St.dead (br h c) (gK h c) D) h c st else none
   |_,_=>none
  |some (.one u)=>
   match o.2 with
   |[.s .own d z rows]=>if u.isOwn=true then some (av D1 (some t) (.one (.s .own d z rows)))else
    match u.rootOf with
    |some (h,c)=>nodePut D h c (.s .own d z rows)
    |none=>none
   |_=>none
  |some (.agg ts)=>if ts.all T.noLent=true then some (av D1 (some t) (.agg o.2))else
   match gY 0 ts with
   |some (h,c,j)=>
    match D[h]? with
    |some (.box b e)=>if ja h 0 e ts=true∧e.all T.noLent=true∧(cl e ts).any T.isOwn=true then some (av D1 (some h) (.box b (eo e o.2)))else(o.2[j]?).bind (nodePut D h c)
    |_=>(o.2[j]?).bind (nodePut D h c)
   |none=>none
  |_=>none
 |_=>none
end
theorem kS (t:DT):t.er.rootOf=t.rootOf:=by
 cases t with
 |v x=>rfl
 |any=>rfl
 |s k d z r =>
  rw[ak];cases k with
  |lent h c a=>cases a<;>rfl
  |_=>rfl
theorem nh:∀(j:Nat)(us:List DT),gY j (erL us)=gY j us
 |_,[]=>rfl
 |j,u::us=>by
  simp only[erL,Cc,gY,kS];cases u.rootOf with
  |some p=>rfl
  |none=>exact nh (j+1) us
theorem qB:∀(ts us:List DT),erL (cl ts us)=cl (erL ts) (erL us)
 |[],us=>by cases us<;>rfl
 |t::ts,[]=>rfl
 |t::ts,u::us=>by have a:=qB ts us;simp only[erL,Cc,cl,bw]at a ⊢;rw[a];cases t.isOwn<;>rfl
theorem vi:∀(ts us:List DT),erL (eo ts us)=eo (erL ts) (erL us)
 |[],us=>by cases us<;>rfl
 |t::ts,[]=>rfl
 |t::ts,u::us=>by have a:=vi ts us;simp only[erL,Cc,eo,bw]at a ⊢;rw[a];cases t.isOwn<;>rfl
theorem ni (h:Nat):∀(j:Nat)(ts us:List DT),ja h j (erL ts) (erL us)=ja h j ts us
 |_,[],[]=>rfl
 |_,[],u::us=>rfl
 |_,t::ts,[]=>rfl
 |j,t::ts,u::us=>by have a:=ni h (j+1) ts us;simp only[erL,Cc,ja,bw,kS,b4]at a ⊢;rw[a]
theorem kQ (ts:List DT):(erL ts).any T.isOwn=ts.any T.isOwn:=by simp only[erL,DU];congr 1;funext t;exact bw t
theorem gh (ts:List DT):(erL ts).all T.noLent=ts.all T.noLent:=bT T.noLent T.noLent b4 ts
theorem ri (ts:List DT)(j:Nat)(u:DT):(erL ts).set j u.er=erL (ts.set j u):=by simp[erL,Dv]
theorem sW (D:DSt)(h c:Nat):bD (fun _=>some .any) (St.dead (br h c) (qHC h c) (erD D)) h c []=(bD (fun _=>some .any) (St.dead (br h c) (qHC h c) D) h c []).map erD:=by rw[show St.dead (br h c) (qHC h c) (erD D)=erD (St.dead (br h c) (qHC h c) D)from(gf _ _ D).symm,jg (f:=fun _=>some .any) (fun _=>rfl)]
theorem mm (D:DSt)(ts:List DT)(h c j:Nat):aggNode (erD D) (erL ts) h c j=(aggNode D ts h c j).map fun r=>(r.1.er,erD r.2):=by
 unfold aggNode;rw[dY];cases ah D h c with
 |none=>rfl
 |some n =>
  cases n with
  |v x=>rfl
  |any=>rfl
  |s k d z rows =>
   cases k with
   |own =>
    simp only[BQ,ak];rw[show(erL ts).set j (T.any:T Unit)=erL (ts.set j .any)from ri ts j .any,gh,kQ];split
    ·rw[sW,CL,CL];congr 1;funext D';simp only[Function.comp,Sl.er];rw[←ri,ak]
    ·rfl
   |_=>simp[ak]
theorem pN (D:DSt)(h c:Nat)(u:DT):nodePut (erD D) h c u.er=(nodePut D h c u).map erD:=by
 unfold nodePut;rw[dY];cases ah D h c with
 |none=>rfl
 |some n =>
  cases n with
  |v x=>rfl
  |any=>rfl
  |s k d z rows =>
   simp only[BQ,ak];cases u with
   |v x=>rfl
   |any=>rfl
   |s k' b e a =>
    rw[ak];cases k' with
    |own =>
     simp only;split
     ·rw[show St.dead (br h c) (gK h c) (erD D)=erD (St.dead (br h c) (gK h c) D)from(gf _ _ D).symm,jg (f:=fK a)];intro t;cases t<;>simp[fK,ak,ca,lH]
     ·rfl
    |_=>rfl
theorem ux (D:DSt)(x:Operand):homeTake (erD D) x=(homeTake D x).map fun r=>(r.1.er,erD r.2):=by
 cases x with
 |tmp t =>
  simp only[homeTake,aF];cases D[t]? with
  |none=>rfl
  |some s =>
   cases s with
   |box b ts =>
    simp only[BQ,Sl.er];rw[bT T.noLent T.noLent b4];split
    ·simp only[BQ,dZ,Sl.er]
    ·rfl
   |pb h off =>
    simp only[BQ,Sl.er,aF];split
    ·cases D[h]? with
     |none=>rfl
     |some s =>
      cases s with
      |box b ts =>
       simp only[BQ,Sl.er];rw[bT T.noLent T.noLent b4];split
       ·simp only[BQ,dZ,Sl.er]
       ·rfl
      |_=>rfl
    ·rfl
   |al h c st lo len =>
    simp only[BQ,Sl.er,jI];cases bg D h c st with
    |none=>rfl
    |some n =>
     cases n with
     |v x=>rfl
     |any=>rfl
     |s k d z rows =>
      cases k with
      |own =>
       simp only[BQ,ak,Ci];split
       ·rw[show St.dead (br h c) (qHC h c) (erD D)=erD (St.dead (br h c) (qHC h c) D)from(gf _ _ D).symm,jg (f:=fun _=>some .any) (fun _=>rfl),CL,CL];congr 1;funext D';simp[Sl.er,ak]
       ·rfl
      |_=>simp[ak]
   |one u =>
    simp only[BQ,Sl.er,bw];split
    ·simp only[BQ,dZ,Sl.er]
    ·rw[kS];cases u.rootOf with
     |none=>rfl
     |some p =>
      obtain⟨h,c⟩:=p;simp only[dY];cases ah D h c with
      |none=>rfl
      |some n =>
       cases n with
       |v x=>rfl
       |any=>rfl
       |s k d z rows =>
        cases k with
        |own =>simp only[BQ,ak];rw[sW,CL,CL];congr 1;funext D';simp[Sl.er,ak]
        |_=>simp[ak]
   |agg ts =>
    simp only[BQ,Sl.er];rw[gh,kQ,nh];split
    ·split
     ·simp only[BQ,dZ,Sl.er]
     ·rfl
    ·cases gY 0 ts with
     |none=>rfl
     |some p =>
      obtain⟨h,c,j⟩:=p;simp only[aF];cases D[h]? with
      |none=>exact mm D ts h c j
      |some s =>
       cases s with
       |box b a =>
        simp only[BQ,Sl.er];rw[ni,gh, ←qB,kQ];split
        ·simp only[BQ,dZ,Sl.er]
        ·exact mm D ts h c j
       |_=>exact mm D ts h c j
   |_=>rfl
 |_=>rfl
theorem uw (D D1:DSt)(x:Operand)(o:Bool×List DT):homePut0 (erD D) (erD D1) x (o.1,erL o.2)=(homePut0 D D1 x o).map erD:=by
 cases x with
 |tmp t =>
  simp only[homePut0,aF];cases D[t]? with
  |none=>rfl
  |some s =>
   cases s with
   |box b ts=>simp only[BQ,Sl.er,aX]
   |pb h off =>
    simp only[BQ,Sl.er,aF];cases D[h]? with
    |none=>rfl
    |some s=>cases s<;>first|rfl|simp only[BQ,Sl.er,aX]
   |al h c st lo len =>
    simp only[BQ,Sl.er,jI];cases bg D h c st with
    |none=>rfl
    |some n =>
     cases n with
     |v x=>rfl
     |any=>rfl
     |s k d z rows =>
      simp only[BQ,ak];obtain⟨g,us⟩:=o
      match us with
      |[]=>rfl
      |[.v x]=>rfl
      |[.any]=>rfl
      |[.s .far e i a]=>simp[ak]
      |[.s (.lent _ _ _) e i a]=>simp[ak]
      |[.s .own e i a]=>
       simp only[Cc,Cu,ak];split
       ·rw[show St.dead (br h c) (gK h c) (erD D)=erD (St.dead (br h c) (gK h c) D)from(gf _ _ D).symm,jg (f:=fK a)];intro t;cases t<;>simp[fK,ak,ca,lH]
       ·rfl
      |u::u'::us =>
       cases u with
       |v x=>rfl
       |any=>rfl
       |s k d z r=>cases k<;>rfl
   |one u =>
    simp only[BQ,Sl.er];obtain⟨g,us⟩:=o
    match us with
    |[]=>rfl
    |[.v x]=>rfl
    |[.any]=>rfl
    |[.s .far e i a]=>simp[ak]
    |[.s (.lent _ _ _) e i a]=>simp[ak]
    |[.s .own e i a]=>
     simp only[Cc,Cu,ak,bw,kS];split
     ·simp[ak,aX,Sl.er]
     ·cases u.rootOf with
      |none=>rfl
      |some p =>have:=pN D p.1 p.2 (.s .own e i a);rw[ak]at this;exact this
    |u::u'::us =>
     cases u with
     |v x=>rfl
     |any=>rfl
     |s k d z r=>cases k<;>rfl
   |agg ts =>
    simp only[BQ,Sl.er,gh,nh];split
    ·simp only[BQ,Sl.er,aX]
    ·have hb:∀(h c j:Nat),((erL o.2)[j]?).bind (nodePut (erD D) h c)=((o.2[j]?).bind (nodePut D h c)).map erD:=by
      intro h c j;simp only[erL,B6];cases o.2[j]? with
      |none=>rfl
      |some u=>exact pN D h c u
     cases gY 0 ts with
     |none=>rfl
     |some p =>
      obtain⟨h,c,j⟩:=p;simp only[aF];cases D[h]? with
      |none=>exact hb h c j
      |some s =>
       cases s with
       |box b l =>
        simp only[BQ,Sl.er];rw[ni,gh, ←qB,kQ];split
        ·simp only[BQ,aX,Sl.er,vi]
        ·exact hb h c j
       |_=>exact hb h c j
   |_=>rfl
 |_=>rfl
theorem eW {δ β:Type}(t:Nat)(D:St δ β):(au t D).length=D.length:=by simp[au,St.dead]
theorem bE {α:Type}{l:List α}{t:Nat}{x:α}(h:l[t]?=some x):t<l.length:=by
 rcases BY t l.length with g|g
 ·exact g
 ·rw[BV g]at h;cases h
theorem oq {D:DSt}{t:Nat}{s:DSl}(h:D[t]?=some s)(b:Nat):az (au t D) b+(ownBl s).count b=az D b:=by
 have hs:(bf t D)[t]?=some (s.clean t):=by unfold bf;rw[B6];unfold St.dead;rw[B6,h];rfl
 have a:=aE ownBl (.any:DSl) b (bf t D) t _ hs;have d:(ownBl (.any:DSl)).count b=0:=rfl;have e:=pD t D b;rw[oG]at a;have c:au t D=(bf t D).set t .any:=rfl;rw[c];unfold az at *;omega
theorem qQ {tm:Array Value}{t:Nat}(a:t<tm.size):tm.setIfInBounds t (tm.getD t undef)=tm:=by
 apply Array.ext
 ·simp
 ·intro i b c;rw[D5];split
  ·rename_i e;subst e;simp[Array.getD,a]
  ·rfl
theorem Inv.takeSlot {cx:Cx}{D:DSt}{tm:Array Value}{w:World}(I:Inv cx D [] tm w){t:Nat}{s:DSl}{y:Value}(hs:D[t]?=some s)(l:(∃b ts,s = .box b ts)∨(∃u,s = .one u)∨∃ts,s = .agg ts)
  {Y:Nat→Prop} (Q:∀b,cx.far b→¬Y b) (L:∀u∈rootsO s,u.noLent=true) (hv:∀D,VS D s y):∃P,Inv cx (au t D) P tm w∧Out cx (au t D) (ownBl s)∧AOk w (ownBl s) Y s y∧∀b,(ownBl s).count b≤1:=by
 have a:=BR hs;have M:=I.mem s a;have m:=I.kind s a;have i:af s=rootsO s:=by rcases l with⟨b,ts,rfl⟩|⟨u,rfl⟩|⟨ts,rfl⟩<;>rfl
 have n:∀u∈rootsO s,∃y,VT u y:=by
  have B:=I.val t s hs;rcases l with⟨b,ts,rfl⟩|⟨u,rfl⟩|⟨ts,rfl⟩
  ·obtain⟨c,e,f,N,o⟩:=M.2.2.1;intro u g;obtain⟨j,R⟩:=BX g;obtain⟨y,_,S⟩:=o j u R;exact⟨y,S⟩
  ·intro v hv;simp[rootsO]at hv;subst hv;exact⟨_,B⟩
  ·obtain⟨cs,_,o⟩:=B;exact o.each
 obtain⟨P,G⟩:=cz n;have C:∀b,((rootsO s).flatMap ownR).count b≤(ownBl s).count b:=by
  intro b;rcases l with⟨H,ts,rfl⟩|⟨u,rfl⟩|⟨ts,rfl⟩
  ·simp only[rootsO,ownBl,CU];omega
  ·simp[rootsO,ownBl]
  ·simp[rootsO,ownBl]
 have q:∀p∈P,p.1∈rootsO s:=fun p A=>by rw[←G.1];exact B7.2 ⟨p,A,rfl⟩
 have J:=Inv.take I (cs:=P) hs (fun p A=>⟨q p A,i ▸ q p A,G.2 p A⟩) (fun p A h c U d z r e=>by have:=L _ (q p A);rw[e]at this;cases this) (fun b=>by rw[G.cnt];exact C b) (by rcases l with⟨H,ts,rfl⟩|⟨u,rfl⟩|⟨ts,rfl⟩<;>simp) (by rcases l with⟨H,ts,rfl⟩|⟨u,rfl⟩|⟨ts,rfl⟩<;>simp);rw[Cp]at J;have F:∀b,(ownBl s).count b≤1:=fun b=>by have N:=oq hs b;have o:=I.once b;rw[a6]at o;omega
 have O:Out cx (au t D) (ownBl s):=fun b hb=>by have X:=B8.2 hb;have N:=oq hs b;have o:=I.once b;rw[a6]at o;have Z:=a8 a hb;exact⟨(I.bnd b (by omega)).1,by omega⟩
 refine⟨P,J,O,⟨hv,M,fun D' _=>?_,fun b hb=>⟨hb,(I.bnd b (by have:=a8 a hb;omega)).2⟩⟩,F⟩;have K:∀u∈rootsO s,aB cx D u→aB ⟨w,ownBl s,Y⟩ D' u:=by
  intro u g l;have V:=L u g;cases u with
  |v x=>trivial
  |any=>trivial
  |s k d z r =>
   cases k with
   |own=>trivial
   |lent h c U=>cases V
   |far=>exact fun x W=>J.farY O Q (l x W)
 rcases l with⟨H,ts,rfl⟩|⟨u,rfl⟩|⟨ts,rfl⟩
 ·exact fun u g=>K u g (m u g)
 ·exact fun u g=>K u g (m u g)
 ·exact fun u g=>K u g (m u g)
theorem eb {ts:List DT}(h:ts.all T.noLent=true):∀u∈ts,u.noLent=true:=fun u a=>B2.1 h u a
theorem Dec.addr_sp {d:Dec}(h:d.sp=none):d.addr=if d.nil=true then none else some ⟨d.b,d.o,none⟩:=Dec.addr_none h
theorem Inv.alNode {cx:Cx}{D:DSt}{P:List (DT×Value)}{tm:Array Value}{w:World}(I:Inv cx D P tm w){t h c:Nat}{st:List (Nat×Nat)}{d:Dec}{z:Nat}{rows:List (List DT)}(k:D[t]?=some (.al h c st 0 rows.length))(b:bg D h c st=some (.s .own d z rows)):
  ∃u,ah D h c=some u∧u.isOwn=true∧getN u st=some (.s .own d z rows)∧Holds w (.s .own d z rows)∧OwnT w (.s .own d z rows)∧VT (.s .own d z rows:DT) (tm.getD t undef):=by
 obtain⟨q,r,n,ad,a,l,m,s,e⟩:=I.val t _ k;obtain⟨t0,v,f,g,o,i,x,p,j⟩:=I.node a;simp only[bg,g,BU]at b;rw[i]at b;cases b;refine⟨t0,g,o,i,p,j,?_⟩;show tm.getD t undef=_;rw[m,Nat.sub_zero,e rfl,Dec.addr_sp j.sp]
theorem Inv.nodeTake {cx:Cx}{D:DSt}{tm:Array Value}{w:World}(I:Inv cx D [] tm w){h c:Nat}{d:Dec}{z:Nat}{rows:List (List DT)}(o:ah D h c=some (.s .own d z rows)){D1:DSt}
  (e:bD (fun _=>some .any) (St.dead (br h c) (qHC h c) D) h c []=some D1):
  ∃P,Inv cx D1 P tm w∧Out cx D1 (bl (.s .own d z rows))∧(∀b,(bl (.s .own d z rows)).count b≤1)∧(∀b∈bl (.s .own d z rows),b<w.heap.size)∧Holds w (.s .own d z rows)∧OwnT w (.s .own d z rows):=by
 have A:=I.dead (br h c) (qHC h c);have i:=dt (p:=br h c) (q:=qHC h c) o rfl;unfold bD at e;rw[i,BU]at e;simp only[cM,BU]at e;obtain⟨B,C,f,r,j,t⟩:=aO o;have k:=I.mem B f;have v:=k.1 _ r;have x:=k.2.1 _ j rfl;have g:=I.bl_once o rfl;have l:∀b∈bl (.s .own d z rows),0<az D b:=fun b hb=>a8 f (t rfl b hb)
 have m:∀b∈bl (.s .own d z rows),b<w.heap.size:=fun b hb=>(I.bnd b (by have:=l b hb;omega)).2
 have a:ownR (.s .own d z rows:DT)=bl (.s .own d z rows):=by simp[ownR,T.isOwn]
 have u:=A.upd (P':=[(.s .own d z rows,.slice d.addr rows.length d.cap)]) (w':=w) e
  {at_:=i,own:=rfl,holds := .any,ownT:=fun h=>(by cases h),kind := .inr rfl,val:=fun _ h=>h.one,
   cnt:=fun b=>by
    rw[eT,a6,a];have F:(ownR (.any:DT)).count b=0:=rfl;split
    ·omega
    ·have:=g b;omega,
   new:=fun b hb n=>by exfalso;rw[eT,a6,a]at n;have F:(ownR (.any:DT)).count b=0:=rfl;have:=m b (B8.1 (by omega));omega,
   hides:=fun s hs=>(j7 s hs).1,
   speak:=fun s hs st hsp=>absurd hsp ((j7 s hs).2 st),
   size:=Cz _,same:=fun _ _ _=>rfl,os:=rfl,tape:=rfl,output:=rfl,
   pend:=fun p y=>by rw[B4]at y;subst y;exact⟨rfl,v,fun _=>x,fun h=>by cases h⟩ }
 refine⟨_,u,fun b hb=>?_,g,m,v,x⟩;have G:=u.once b;rw[eT,a6,a]at G;have H:=B8.2 hb;exact⟨(u.bnd b (by rw[eT,a6,a];omega)).1,by omega⟩
theorem Inv.root {cx:Cx}{D:DSt}{u:DT}{h c:Nat}{y:Value}(b:u.rootOf=some (h,c))(e:aB cx D u)(hv:VT u y):∃d z rows,ah D h c=some (.s .own d z rows)∧y = .slice d.addr rows.length d.cap:=by
 cases u with
 |v x=>cases b
 |any=>cases b
 |s k d z r =>
  cases k with
  |lent m n f =>
   cases f with
   |false=>cases b
   |true =>
    cases b;rcases e with⟨_,q,_⟩|⟨t,g,o,p,i⟩
    ·cases q
    obtain⟨j,a,rfl,l⟩:=i rfl;exact⟨d,j,a,g,by rw[l];exact hv⟩
  |_=>cases b
theorem lu:∀{j:Nat}{us:List DT}{h c i:Nat},gY j us=some (h,c,i)→∃u,j≤i∧us[i-j]?=some u∧u.rootOf=some (h,c)
 |j,[],h,c,i,e=>by cases e
 |j,u::us,h,c,i,e=>by
  unfold gY at e;cases a:u.rootOf with
  |some p =>rw[a]at e;cases e;exact⟨u,Cz _,by simp,a⟩
  |none =>rw[a]at e;obtain⟨v,f,b,d⟩:=lu e;refine⟨v,by omega,?_,d⟩;rw[show i-j=(i-(j+1))+1 by omega];simpa using b
theorem qi {h:Nat}:∀{j:Nat}{ts us:List DT},ja h j ts us=true→ts.length=us.length∧∀(i:Nat)(t u:DT),ts[i]?=some t→us[i]?=some u →
  (t.isOwn=true→u.rootOf=some (h,j+i))∧(t.isOwn=false→u.noLent=true∧u.isOwn=false)
 |_,[],[],_=>⟨rfl,fun i t u h=>by simp at h⟩
 |_,[],u::us,e=>by cases e
 |_,t::ts,[],e=>by cases e
 |j,t::ts,u::us,e=>by
  unfold ja at e;rw[Cf]at e;obtain⟨a,d⟩:=e;obtain⟨f,g⟩:=qi d;refine⟨by simp[f],fun i t' u' hi b=>?_⟩;cases i with
  |zero =>
   simp at hi b;subst hi;subst b;split at a
   ·rename_i c;exact⟨fun _=>by simpa using a,fun q=>by rw[c]at q;cases q⟩
   ·rename_i c;refine⟨fun q=>absurd q c,fun _=>?_⟩;rw[Cf]at a;exact⟨a.1,by simpa using a.2⟩
  |succ i =>have:=g i t' u' (by simpa using hi) (by simpa using b);rw[show j+(i+1)=j+1+i by omega];exact this
theorem pj:∀{ts us:List DT}{i:Nat}{x:DT},(cl ts us)[i]?=some x→∃t u,ts[i]?=some t∧us[i]?=some u∧x=if t.isOwn=true then t else u
 |[],us,i,x,e=>by cases us<;>simp[cl]at e
 |t::ts,[],i,x,e=>by simp[cl]at e
 |t::ts,u::us,0,x,e=>by simp only[cl,CO,Ck]at e;exact⟨t,u,rfl,rfl,e.symm⟩
 |t::ts,u::us,i+1,x,e=>by simp only[cl,C7]at e;obtain⟨t',u',a,b,c⟩:=pj e;exact⟨t',u',by simpa using a,by simpa using b,c⟩
theorem tF:∀{ts us:List DT},ts.length=us.length→(cl ts us).length=ts.length
 |[],[],_=>rfl
 |[],u::us,h=>by simp at h
 |t::ts,[],h=>by simp at h
 |t::ts,u::us,h=>by simp only[cl,Dk];rw[tF (by simpa using h)]
theorem tG:∀{ts us:List DT},(∀(i:Nat)(t u:DT),ts[i]?=some t→us[i]?=some u→t.isOwn=false→u.isOwn=false)→∀b,((cl ts us).flatMap ownR).count b≤(ts.flatMap ownR).count b
 |[],us,_,b=>by cases us<;>simp[cl]
 |t::ts,[],_,b=>by simp[cl]
 |t::ts,u::us,h,b=>by
  have c:=tG (ts:=ts) (us:=us) (fun i t u d e=>h (i+1) t u (by simpa using d) (by simpa using e)) b;simp only[cl,B9,Ce];cases a:t.isOwn with
  |true=>rw[BZ rfl];omega
  |false =>rw[Cd CF,bW (h 0 t u rfl rfl a),bW a];simpa using c
theorem pk:∀{ts us:List DT}{i:Nat}{x:DT},(eo ts us)[i]?=some x→∃t u,ts[i]?=some t∧us[i]?=some u∧x=if t.isOwn=true then u else t
 |[],us,i,x,e=>by cases us<;>simp[eo]at e
 |t::ts,[],i,x,e=>by simp[eo]at e
 |t::ts,u::us,0,x,e=>by simp only[eo,CO,Ck]at e;exact⟨t,u,rfl,rfl,e.symm⟩
 |t::ts,u::us,i+1,x,e=>by simp only[eo,C7]at e;obtain⟨t',u',a,b,c⟩:=pk e;exact⟨t',u',by simpa using a,by simpa using b,c⟩
theorem tH:∀{ts us:List DT}(b:Nat),((eo ts us).flatMap ownR).count b≤(us.flatMap ownR).count b
 |[],us,b=>by cases us<;>simp[eo]
 |t::ts,[],b=>by simp[eo]
 |t::ts,u::us,b=>by
  have c:=tH (ts:=ts) (us:=us) b;simp only[eo,B9,Ce];cases a:t.isOwn with
  |true=>rw[BZ rfl];omega
  |false=>rw[Cd CF,bW a];simp;omega
theorem pR {u:DT}(h:u.noLent=true):u.isOwn=true∨bl u=[]∨∃d z r,u = .s .far d z r:=by
 cases u with
 |v x=>exact .inr (.inl (by simp[bl]))
 |any=>exact .inr (.inl (by simp[bl]))
 |s k d z r=>cases k<;>first|exact .inl rfl|exact .inr (.inr ⟨_,_,_,rfl⟩)|cases h
theorem qW {cx:Cx}{D D':DSt}{w:World}{X:List Nat}{Y:Nat→Prop}{u:DT}(a:u.noLent=true)(e:aB cx D u)(hf:∀b,cx.far b→(Cx.mk w X Y).far b):aB ⟨w,X,Y⟩ D' u:=by
 cases u with
 |v x=>trivial
 |any=>trivial
 |s k d z r =>
  cases k with
  |own=>trivial
  |lent h c g=>cases a
  |far=>exact fun x f=>hf x (e x f)
theorem Inv.aggNode {cx:Cx}{D:DSt}{a:Act}{w:World}(I:Inv cx D [] a.tmps w){t:Nat}{ts:List DT}(hD:D[t]?=some (.agg ts)){h c j:Nat}{u:DT}(hj:ts[j]?=some u)(Q:u.rootOf=some (h,c)){s:DSl}{D1:DSt}
  {Y:Nat→Prop} (R:∀b,cx.far b→¬Y b) (e:Am.aggNode D ts h c j=some (s,D1)):∃d z rows,ah D h c=some (.s .own d z rows)∧s = .agg (ts.set j (.s .own d z rows))∧ownBl s=bl (.s .own d z rows) ∧
   ∃P,Inv cx D1 P a.tmps w∧Out cx D1 (ownBl s)∧AOk w (ownBl s) Y s (a.eval (.tmp t))∧(∀b,(ownBl s).count b≤1)∧(bi s).isSome=true∧OwnT w (.s .own d z rows):=by
 obtain⟨cs,S,m⟩:=I.val t _ hD;have o:=BR hD;have U:=I.mem _ o;have C:=I.kind _ o;have n:j<ts.length:=bE hj;have p:j<cs.toList.length:=by rw[←m.1];exact n
 have G:=m.2 j u _ hj (BW p);obtain⟨d,z,rows,H,V⟩:=Inv.root Q (C u (BR hj)) G;unfold Am.aggNode at e;rw[H]at e;simp only at e;split at e
 case isFalse=>cases e
 rename_i k;rw[BS]at e;obtain⟨D',W,X⟩:=e;cases X;obtain⟨P,L,M,Z,n4,n5,N⟩:=I.nodeTake H W;have r:∀v∈ts.set j .any,v.isOwn=false:=by have:=k.2;rw[Dp]at this;intro v hv;have:=this v hv;simpa using this
 have F:∀b,((ts.set j (.s .own d z rows)).flatMap ownR).count b=(bl (.s .own d z rows)).count b:=by
  intro b;have q:=aE ownR (.s .own d z rows:DT) b ts j u hj;have B:=aE ownR (.any:DT) b ts j u hj;have q3:((ts.set j .any).flatMap ownR)=[]:=by rw[Ca];exact fun v hv=>bW (r v hv)
  have q4:(ownR (.any:DT)).count b=0:=rfl;have q5:ownR (.s .own d z rows:DT)=bl (.s .own d z rows):=by simp[ownR,T.isOwn]
  rw[q3]at B;rw[q5]at q;simp only[DZ]at B;omega
 have g:∀(i:Nat)(v:DT),(ts.set j (.s .own d z rows))[i]?=some v→(i=j∧v = .s .own d z rows)∨(i≠j∧ts[i]?=some v∧v∈ts.set j .any):=by
  intro i v hi;by_cases q:i=j
  ·subst q;rw[B1 n]at hi;cases hi;exact .inl ⟨rfl,rfl⟩
  ·rw[B3 (fun J=>q J.symm)]at hi;exact .inr ⟨q,hi,BR (i:=i) (by rw[B3 (fun J=>q J.symm)];exact hi)⟩
 have F0:∀b,b∈ownBl (.agg (ts.set j (.s .own d z rows)))↔b∈bl (.s .own d z rows):=fun b=>by rw[←B8, ←B8];show 0<((ts.set j (.s .own d z rows)).flatMap ownR).count b↔_;rw[F]
 have f:ownBl (.agg (ts.set j (.s .own d z rows)))=bl (.s .own d z rows):=by
  show(ts.set j (.s .own d z rows)).flatMap ownR=_;have K:∀(l:List DT)(i:Nat),i<l.length→(∀v∈l.set i .any,v.isOwn=false)→(l.set i (.s .own d z rows)).flatMap ownR=bl (.s .own d z rows):=by
   intro l;induction l with
   |nil=>intro i hi;simp at hi
   |cons x l ih =>
    intro i hi hv;cases i with
    |zero =>
     simp only[List.set_cons_zero,B9];have:l.flatMap ownR=[]:=by rw[Ca];exact fun v y=>bW (hv v (by simp[y]))
     rw[this];simp[ownR,T.isOwn]
    |succ i =>simp only[List.set_cons_succ,B9];rw[bW (hv x (by simp)),ih i (by simpa using hi) (fun v y=>hv v (by simp[y]))];rfl
  exact K ts j n r
 refine⟨d,z,rows,H,rfl,f,P,L,?_,?_,?_,?_,N⟩
 ·rw[f];exact M
 ·rw[f];refine⟨fun _=>⟨cs,S,⟨by rw[Dm];exact m.1,fun i v y' hi A=>?_⟩⟩,⟨fun v hv=>?_,fun v hv O=>?_,trivial⟩,fun D' _ v hv=>?_,fun b hb=>?_⟩
  ·rcases g i v hi with⟨rfl,rfl⟩|⟨_,q,_⟩
   ·rw[BW p]at A;cases A;exact V
   ·exact m.2 i v y' q A
  ·obtain⟨i,hi⟩:=BX hv;rcases g i v hi with⟨rfl,rfl⟩|⟨_,q,_⟩
   ·exact n5
   ·exact U.1 v (BR q)
  ·obtain⟨i,hi⟩:=BX hv;rcases g i v hi with⟨rfl,rfl⟩|⟨_,q,B⟩
   ·exact N
   ·rw[r v B]at O;cases O
  ·obtain⟨i,hi⟩:=BX hv;rcases g i v hi with⟨rfl,rfl⟩|⟨_,q,B⟩
   ·trivial
   ·exact qW (eb k.1 v B) (C v (BR q)) fun b hb=>L.farY M R hb
  ·rw[f]at hb;exact⟨hb,n4 b hb⟩
 ·intro b;rw[f];exact Z b
 ·simp only[bi];rw[BZ]
  ·rfl
  ·rw[C4];exact⟨_,List.mem_set n _,rfl⟩
theorem Inv.boxAgg {cx:Cx}{D:DSt}{a:Act}{w:World}(I:Inv cx D [] a.tmps w){t h:Nat}{ts c:List DT}{b:Nat×Nat}(hD:D[t]?=some (.agg ts))(hb:D[h]?=some (.box b c))(X:ja h 0 c ts=true)(Z:c.all T.noLent=true){Y:Nat→Prop}(O:∀b,cx.far b→¬Y b):
  ∃P,Inv cx (au h D) P a.tmps w∧Out cx (au h D) (ownBl (.agg (cl c ts)))∧AOk w (ownBl (.agg (cl c ts))) Y (.agg (cl c ts)) (a.eval (.tmp t))∧(∀x,(ownBl (.agg (cl c ts))).count x≤1) ∧
   (Out cx (au h D) (ownBl (.box b c))∧b.1∉ownBl (.agg (cl c ts))∧b.1<w.heap.size)∧∀cs:Array Value,a.eval (.tmp t)= .agg cs→∀(i:Nat)(x:DT)(y:Value),c[i]?=some x→x.isOwn=true→cs.toList[i]?=some y→VT x y:=by
 obtain⟨cs,Q,F⟩:=I.val t _ hD;have p:=BR hD;have hm:=I.mem _ p;have G:=I.kind _ p;obtain⟨P,R,S,J,U⟩:=I.takeSlot hb (.inl ⟨b,c,rfl⟩) O (eb Z) (y := .pointer (some ⟨b.1,b.2,none⟩)) (fun _=>rfl);obtain⟨l,e⟩:=qi X;have m:=tG (ts:=c) (us:=ts) (fun i t u q1 q2 j=>((e i t u q1 q2).2 j).2);have A:∀x∈ownBl (.agg (cl c ts)),x∈ownBl (.box b c):=fun x f=>by have q:=m x;have q2:=B8.2 (show x∈(cl c ts).flatMap ownR from f);exact Dq _ (B8.1 (by omega))
 have V:Out cx (au h D) (ownBl (.agg (cl c ts))):=fun x f=>S x (A x f)
 have B:∀(i:Nat)(x:DT)(y:Value),c[i]?=some x→x.isOwn=true→cs.toList[i]?=some y→VT x y:=by
  intro i x y hi g o;have K:i<ts.length:=by rw[←l];exact bE hi
  have hu:=BW K;have L:=(e i x _ hi hu).1 g;obtain⟨d,z,rows,W,g2⟩:=Inv.root L (G _ (BR hu)) (F.2 i _ y hu o);have:ah D h (0+i)=some x:=by rw[Db];unfold ah;rw[hb];exact hi
  rw[this]at W;cases W;exact g2
 have n:∀x∈cl c ts,(x∈c∧x.isOwn=true)∨(x∈ts∧x.noLent=true∧x.isOwn=false):=by
  intro x f;obtain⟨i,hi⟩:=BX f;obtain⟨t',u',q1,q2,j⟩:=pj hi;cases g:t'.isOwn with
  |true=>rw[g,BZ rfl]at j;subst j;exact .inl ⟨BR q1,g⟩
  |false =>rw[g,Cd CF]at j;subst j;have:=(e i t' x q1 q2).2 g;exact .inr ⟨BR q2,this.1,this.2⟩
 have H:∀x,(ownBl (.agg (cl c ts))).count x≤1:=fun x=>by
  have q:=m x;have q2:=U x;have j:(ownBl (.box b c)).count x=(if b.1=x then 1 else 0)+(c.flatMap ownR).count x:=by simp only[ownBl,CU,DS];omega
  show((cl c ts).flatMap ownR).count x≤1;omega
 have M:b.1∉ownBl (.agg (cl c ts)):=fun f=>by
  have q:=m b.1;have q1:=B8.2 (show b.1∈(cl c ts).flatMap ownR from f);have q2:=U b.1;have j:(ownBl (.box b c)).count b.1=1+(c.flatMap ownR).count b.1:=by simp only[ownBl,List.count_cons_self];omega
  omega
 refine⟨P,R,V,⟨fun _=>⟨cs,Q,⟨by rw[tF l,l];exact F.1,fun i x y hi o=>?_⟩⟩,⟨fun x f=>?_,fun x f g=>?_,trivial⟩,fun D' _ x f=>?_,fun x f=>⟨f,(J.own x (A x f)).2⟩⟩,H,⟨S,M,(J.own b.1 (by simp[ownBl])).2⟩,fun N C=>?_⟩
 ·obtain⟨t',u',q1,q2,j⟩:=pj hi;cases g:t'.isOwn with
  |true=>rw[g,BZ rfl]at j;subst j;exact B i x y q1 g o
  |false=>rw[g,Cd CF]at j;subst j;exact F.2 i x y q2 o
 ·rcases n x f with⟨q,_⟩|⟨q,_⟩
  ·exact J.mem.1 x q
  ·exact hm.1 x q
 ·rcases n x f with⟨q,_⟩|⟨q,_,q2⟩
  ·exact J.mem.2.1 x q g
  ·rw[q2]at g;cases g
 ·rcases n x f with⟨q,q2⟩|⟨q,q2,_⟩
  ·cases x with
   |v y=>trivial
   |any=>trivial
   |s k d z r=>cases k<;>first|trivial|cases q2
  ·exact qW q2 (G x q) fun b hb=>R.farY V O hb
 ·have:N=cs:=by have hh:a.eval (.tmp t)= .agg cs:=Q;rw[hh]at C;cases C;rfl
  subst this;exact B
theorem Inv.homeTake {cx:Cx}{D:DSt}{a:Act}{w:World}(I:Inv cx D [] a.tmps w){x:Operand}{s:DSl}{D1:DSt}{Y:Nat→Prop}(p:∀b,cx.far b→¬Y b)(e:Am.homeTake D x=some (s,D1)):
  ∃P,Inv cx D1 P a.tmps w∧Out cx D1 (ownBl s)∧AOk w (ownBl s) Y s (a.eval x)∧(∀b,(ownBl s).count b≤1)∧(bi s).isSome=true:=by
 cases x with
 |tmp t =>
  simp only[Am.homeTake]at e;split at e
  ·rename_i b ts hD;split at e
   case isFalse=>cases e
   rename_i A;cases e;obtain⟨P,f,g,l,n⟩:=I.takeSlot hD (.inl ⟨b,ts,rfl⟩) p (eb A) (fun _=>I.val t _ hD);exact⟨P,f,g,l,n,rfl⟩
  ·rename_i h off hD;split at e
   case isFalse=>cases e
   rename_i B;subst B;split at e
   case h_2=>cases e
   rename_i b ts hb;split at e
   case isFalse=>cases e
   rename_i A;cases e;obtain⟨b',ts',C,W⟩:=I.val t _ hD;rw[hb]at C;cases C;obtain⟨P,f,g,l,n⟩:=I.takeSlot hb (.inl ⟨b,ts,rfl⟩) p (eb A) (y:=a.eval (.tmp t)) (fun _=>W);exact⟨P,f,g,l,n,rfl⟩
  ·rename_i h c st lo len hD;split at e
   case h_2=>cases e
   rename_i d z rows X;split at e
   case isFalse=>cases e
   rename_i hc;obtain⟨rfl,rfl⟩:=hc;rw[BS]at e;obtain⟨D2,K,e⟩:=e;cases e;have L:Am.cellsTake mkD D (.tmp t)=some (false,[.s .own d z rows],D1):=by simp only[Am.cellsTake,hD,X];rw[BZ (Or.inl trivial),K];simp[mkD]
   obtain⟨ys,P,f,g,l⟩:=I.cellsTake L;have M:ys=[a.eval (.tmp t)]:=by simpa[aP]using l
   subst M;have i:∀b,(ownR (.s .own d z rows:DT)).count b≤aq P b:=fun b=>by simpa using g.cnt b
   have Z:Out cx D1 (ownBl (.one (.s .own d z rows))):=fun b hb=>by have F:=B8.2 (show b∈ownR (.s .own d z rows:DT)from hb);have q:=i b;have G:=f.once b;exact⟨(f.bnd b (by omega)).1,by omega⟩
   refine⟨P,f,Z,⟨fun _=>g.v.2 0 _ _ rfl rfl,⟨fun u H=>g.holds u H,fun u H J=>g.own u H J,trivial⟩,fun D' _ u H=>?_,fun b hb=>⟨hb,?_⟩⟩,fun b=>?_,rfl⟩
   ·rw[B4.1 H];trivial
   ·have F:=B8.2 (show b∈ownR (.s .own d z rows:DT)from hb);have q:=i b;exact(f.bnd b (by omega)).2
   ·have q:=i b;have G:=f.once b;show(ownR (.s .own d z rows:DT)).count b≤1;omega
  ·rename_i u hD;split at e
   case isFalse =>
    split at e
    case h_2=>cases e
    rename_i h c N;split at e
    case h_2=>cases e
    rename_i d z rows hc;rw[BS]at e;obtain⟨D',e1,e2⟩:=e;cases e2;obtain⟨P,n1,n2,n3,n4,n5,n6⟩:=I.nodeTake hc e1;obtain⟨d',z',O,U,g2⟩:=Inv.root N (I.kind _ (BR hD) u (by simp[af])) (I.val t _ hD);rw[hc]at U;cases U;have o:ownBl (.one (.s .own d z rows):DSl)=bl (.s .own d z rows):=by simp[ownBl,ownR,T.isOwn]
    refine⟨P,n1,by rw[o];exact n2,⟨fun _=>g2,⟨fun v hv=>?_,fun v hv _=>?_,trivial⟩,fun D' _ v hv=>?_,fun b hb=>?_⟩,fun b=>by rw[o];exact n3 b,rfl⟩
    ·rw[B4.1 hv];exact n5
    ·rw[B4.1 hv];exact n6
    ·rw[B4.1 hv];trivial
    ·exact⟨hb,n4 b (o ▸ hb)⟩
   rename_i J;cases e;obtain⟨P,f,g,l,n⟩:=I.takeSlot hD (.inr (.inl ⟨u,rfl⟩)) p (fun v hv=>by
    simp[rootsO]at hv;subst hv;cases v with
    |v x=>rfl
    |any=>rfl
    |s k d z r=>cases k<;>first|rfl|cases J) (y:=a.eval (.tmp t)) (fun _=>I.val t _ hD)
   exact⟨P,f,g,l,n,by simp[bi,J]⟩
  ·rename_i ts hD;split at e
   case isFalse =>
    split at e
    case h_2=>cases e
    rename_i h c j Q;obtain⟨u,_,hj,N⟩:=lu Q;have m:Am.aggNode D ts h c j=some (s,D1)→∃P,Inv cx D1 P a.tmps w∧Out cx D1 (ownBl s)∧AOk w (ownBl s) Y s (a.eval (.tmp t))∧(∀b,(ownBl s).count b≤1)∧(bi s).isSome=true:=fun e=>by obtain⟨d,z,rows,_,_,_,P,F,q,G,R,V,_⟩:=I.aggNode hD (by simpa using hj) N p e;exact⟨P,F,q,G,R,V⟩
    split at e
    case h_2=>exact m e
    rename_i b bs hb;split at e
    case isFalse=>exact m e
    rename_i hc;cases e;obtain⟨P,F,q,G,R,V,_⟩:=I.boxAgg hD hb hc.1 hc.2.1 p;exact⟨P,F,q,G,R,by simp only[bi];rw[BZ hc.2.2];rfl⟩
   rename_i A;split at e
   case isFalse=>cases e
   rename_i S;cases e;obtain⟨P,f,g,l,n⟩:=I.takeSlot hD (.inr (.inr ⟨ts,rfl⟩)) p (eb A) (y:=a.eval (.tmp t)) (fun _=>I.val t _ hD);exact⟨P,f,g,l,n,by simp only[bi];rw[BZ S];rfl⟩
  ·cases e
 |_=>cases e
theorem Inv.back {cx:Cx}{D1:DSt}{P:List (DT×Value)}{tm:Array Value}{w w':World}(I:Inv cx D1 P tm w){X bx:List Nat}{Y:Nat→Prop}(j:Out cx D1 X)(g:GrewH X w w'){o:Bool×List DT}{rd:bA}{v:Value}(R:RetOk w X Y w' bx [o] rd v)(c:ey cx ([o]++rd))
  {h i:List (DT×Value)} (d:PendOf h o.2) (e:PendOf i (rd.flatMap (·.2))):Inv cx D1 (h++i) tm w'∧∀b,aq (h++i) b=(aJ ([o]++rd)).count b:=by
 have a:∀b,aq (h++i) b=(aJ ([o]++rd)).count b:=by intro b;rw[de,d.cnt,e.cnt,gr,Ce,jA rd];simp[aJ]
 refine⟨I.world j g (fun p hp=>?_) (fun b hb=>?_),a⟩
 ·rcases Cm.1 hp with hp|hp
  ·exact R.pend (fun t f=>⟨o,by simp,f⟩) d c p hp
  ·exact R.pend (fun t f=>by obtain⟨r,l,f⟩:=B5.1 f;exact⟨r,by simp[l],f⟩) e c p hp
 ·rw[a]at hb ⊢;have m:=R.once b;obtain⟨n1,k⟩:=R.new b (B8.1 hb);rcases n1 with n1|n1
  ·refine⟨by omega,?_,.inl (CH I.frame.size n1),k⟩;rcases CE (az D1 b)with q|q
   ·exact q
   ·have:=(I.bnd b (by omega)).2;omega
  ·exact⟨by omega,(j b n1).2,(j b n1).1,k⟩
theorem Inv.putBack {cx:Cx}{D1:DSt}{P:List (DT×Value)}{tm:Array Value}{w w':World}(F:Inv cx D1 P tm w){X bx:List Nat}{Y:Nat→Prop}(s:Out cx D1 X)(g:GrewH X w w'){o:Bool×List DT}{rd:bA}{v:Value}(R:RetOk w X Y w' bx [o] rd v)(k:ey cx ([o]++rd))
  {t:Nat} (q:t<D1.length) {s':DSl} (hv:VS D1 s' (tm.getD t undef)) (G:af s'=o.2) (d:rootsO s'=o.2) (r:sw w' s') (z:(∃b,s' = .box b o.2∧bx=[b.1]∧b.1∈X∧b.1<w.heap.size)∨(∃u,s' = .one u)∨∃ts,s' = .agg ts)
  (f:∀u∈o.2,∃y,VT u y):∃i,PendOf i (rd.flatMap (·.2))∧Inv cx (av D1 (some t) s') i tm w':=by
 obtain⟨A,c⟩:=cz f;obtain⟨i,l⟩:=cz R.each;obtain⟨B,hc⟩:=F.back s g R k c l;have C:t<tm.size:=by rw[←F.size];exact q
 have a:MemS w' s':=⟨fun u m=>R.holds o (by simp) u (G ▸ m),fun u m I=>R.own o (by simp) u (d ▸ m) I,r⟩
 have j:∀u∈af s',aB cx D1 u:=fun u m=>(k o (by simp) u (G ▸ m)).at
 refine⟨i,l,?_⟩;rw[←qQ (tm:=tm) (t:=t) C];rcases z with⟨b,rfl,D,n,p⟩|⟨u,rfl⟩|⟨ts,rfl⟩
 ·refine Inv.putF (P:=A) (Q:=i) B (fun x=>if x=b.1 then 1 else 0) (fun x r=>?_) q hv a j (fun x=>?_)
  ·split at r
   ·rename_i e;subst e;have H:=R.once b.1;rw[D]at H;simp only[List.count_cons_self]at H;exact⟨by simp,by rw[hc,(s _ n).2];omega,(s _ n).1,Cr p g.size⟩
   ·cases r
  ·rw[c.cnt];simp only[ownBl,CU];by_cases e:x=b.1
   ·subst e;simp
   ·have:(b.1==x)=false:=by simp;exact fun h=>e h.symm
    simp[this,e]
 ·refine Inv.put (P:=A) (Q:=i) B q hv a j (fun x=>?_);rw[c.cnt, ←d];simp[ownBl,rootsO]
 ·refine Inv.put (P:=A) (Q:=i) B q hv a j (fun x=>?_);rw[c.cnt, ←d];exact Cz _
theorem Inv.nodeBack {cx:Cx}{D:DSt}{tm:Array Value}{w w':World}(I:Inv cx D [] tm w){h c:Nat}{st:List (Nat×Nat)}{u:DT}{d:Dec}{z:Nat}{rows:List (List DT)}(Z:ah D h c=some u)(n2:u.isOwn=true)
  (n3:getN u st=some (.s .own d z rows)) (H:OwnT w (.s .own d z rows)) (g:GrewH (bl (.s .own d z rows)) w w') {bx:List Nat} {Y:Nat→Prop} {o:Bool×List DT} {rd:bA} {v:Value} (R:RetOk w (bl (.s .own d z rows)) Y w' bx [o] rd v) (K:ey cx ([o]++rd))
  {e:Dec} {a:List (List DT)} (L:(.s .own e z a:DT)∈o.2) (l:Value.slice e.addr a.length e.cap = .slice d.addr rows.length d.cap):
  ∃V A,bD (fK a) (St.dead (br h c) (gK h c) D) h c st=some V∧PendOf A (rd.flatMap (·.2))∧Inv cx V A tm w':=by
 simp only[Value.slice.injEq]at l;obtain⟨j,v2,v3⟩:=l;have W:=R.holds o (by simp) (.s .own e z a) L;have M:=R.own o (by simp) (.s .own e z a) L rfl;have hd:e=d∨(d.nil=true∧a=[]∧d.sp=none∧d.cap=0):=by
  rw[Dec.addr_sp M.sp,Dec.addr_sp H.sp]at j;cases k:d.nil with
  |true =>
   right;rw[k]at j;have F:e.nil=true:=by
    cases q:e.nil with
    |true=>rfl
    |false=>rw[q]at j;simp at j
   refine⟨rfl,W.nilrows F,H.sp,?_⟩;cases H with
   |nil _ _ _ _ hc=>exact hc
   |s _ _ _ q=>rw[q]at k;cases k
  |false =>
   left;rw[k]at j;cases q:e.nil with
   |true=>rw[q]at j;simp at j
   |false =>rw[q]at j;simp only[Ch,CD,Ck,Addr.mk.injEq]at j;have s1:=M.sp;have s2:=H.sp;cases d;cases e;simp_all
 have O:Holds w' (.s .own d z a):=by
  rcases hd with rfl|⟨n,rfl,B,J⟩
  ·exact W
  ·exact .e .own d z
 have P:OwnT w' (.s .own d z a):=by
  rcases hd with rfl|⟨n,rfl,B,J⟩
  ·exact M
  ·exact .nil d z n B J
 have G:∀b,(bl (.s .own d z a)).count b≤(bl (.s .own e z a)).count b:=by
  intro b;rcases hd with rfl|⟨n,rfl,B,J⟩
  ·exact Cz _
  ·rw[bv,n];simp
 obtain⟨A,C⟩:=cz R.each;have x:∀b,(bl (.s .own e z a)).count b+aq A b≤(aJ ([o]++rd)).count b:=by
  intro b;rw[gr,Ce,C.cnt,jA rd];refine Nat.add_le_add ?_ (Cz _);obtain⟨i,hi⟩:=BX L;have q:=aE ownR (.any:DT) b o.2 i _ hi;have Q:(ownR (.any:DT)).count b=0:=rfl;have B:ownR (.s .own e z a:DT)=bl (.s .own e z a):=by simp[ownR,T.isOwn]
  rw[B]at q;have J:(aJ [o]).count b=(o.2.flatMap ownR).count b:=by simp[aJ]
  omega
 have N:NodeOk w w' (.s .own d z rows) (.s .own d z a):=⟨O,P,fun y hy=>by show y=_;rw[show y=_ from hy,v2],fun b hb S=>g.same b hb S⟩
 obtain⟨D',k1,X⟩:=I.updNode (P':=A) Z n2 n3 (f:=fK a) rfl N (fun _=>rfl) (p:=br h c) (q:=gK h c) (by simp[br]) (.inr (.inl ⟨by simp[gK],fun d2 z2 m ⟨X,r2,n,Q⟩=>by
   simp only[getN,Ck,T.s.injEq]at n;obtain⟨rfl,rfl,rfl,rfl⟩:=n;exact⟨.own,a,rfl,by omega⟩⟩)) (fun b=>by
   have n:=R.once b;have B:=x b;have Q:=G b;split
   ·rename_i F0;rcases CE ((bl (.s .own e z a)).count b+aq A b)with q|q
    ·omega
    ·have:=R.new b (B8.1 (by omega));rcases this.1 with q'|q'
     ·omega
     ·have:=B8.2 q';omega
   ·omega) (fun b hb hp=>by
   have Q:=G b;have B:=x b;exact(R.new b (B8.1 (by omega))).2) g.size g.os g.tape g.output (R.pend (fun t U=>by
   obtain⟨r,hr,U⟩:=B5.1 U;exact⟨r,by simp[hr],U⟩) C K)
 exact⟨D',A,k1,C,X⟩
theorem rq {d:Dec}{z:Nat}{rows:List (List DT)}:ownBl (.one (.s .own d z rows):DSl)=bl (.s .own d z rows):=by simp[ownBl,ownR,T.isOwn]
theorem Inv.nodePut {cx:Cx}{D k:DSt}{tm:Array Value}{w w':World}(I:Inv cx D [] tm w){h c:Nat}{d:Dec}{z:Nat}{rows:List (List DT)}(l:ah D h c=some (.s .own d z rows))(m:OwnT w (.s .own d z rows))
  (g:GrewH (bl (.s .own d z rows)) w w') {bx:List Nat} {Y:Nat→Prop} {o:Bool×List DT} {rd:bA} {v:Value} (R:RetOk w (bl (.s .own d z rows)) Y w' bx [o] rd v) (b:ey cx ([o]++rd)) {u:DT} (n:u∈o.2) (hv:VT u (.slice d.addr rows.length d.cap))
  (e:Am.nodePut D h c u=some k):∃a,PendOf a (rd.flatMap (·.2))∧Inv cx k a tm w':=by
 unfold Am.nodePut at e;rw[l]at e;split at e
 case h_2=>cases e
 rename_i s t z0 f x y i j;cases j;split at e
 case isFalse=>cases e
 rename_i hz;subst hz;obtain⟨A,a,p,q,r⟩:=I.nodeBack (st:=[]) l rfl rfl m g R b n hv.symm;rw[p]at e;cases e;exact⟨a,q,r⟩
theorem Inv.boxBack {cx:Cx}{D D1:DSt}{P:List (DT×Value)}{tm:Array Value}{w w':World}(I:Inv cx D [] tm w){h:Nat}{b:Nat×Nat}{m:List DT}(hb:D[h]?=some (.box b m))(hl:m.all T.noLent=true)(I1:Inv cx (au h D) P tm w){X bx:List Nat}{Y:Nat→Prop}
  (hX:Out cx (au h D) X) (F0:Out cx (au h D) (ownBl (.box b m))) (L:b.1∉X) (C:b.1<w.heap.size) (g:GrewH X w w') {o:Bool×List DT} {rd:bA} {v:Value} (R:RetOk w X Y w' bx [o] rd v) (M:ey cx ([o]++rd))
  {cs:Array Value} (ho:VCells o.2 cs.toList) (N:∀(i:Nat)(x:DT)(y:Value),m[i]?=some x→x.isOwn=true→cs.toList[i]?=some y→VT x y):
  ∃O,PendOf O (rd.flatMap (·.2))∧Inv cx (av (au h D) (some h) (.box b (eo m o.2))) O tm w':=by
 obtain⟨Po,S⟩:=cz ho.each;obtain⟨O,U⟩:=cz R.each;obtain⟨I2,hc⟩:=I1.back hX g R M S U;have F:=BR hb;have hm:=I.mem _ F;have G:=I.kind _ F;have ht:h<(au h D).length:=by rw[eW];exact bE hb
 have F1:h<tm.size:=by rw[←I1.size];exact ht
 have same:w'.heap[b.1]?=w.heap[b.1]?:=g.same b.1 C L;have n:∀x∈eo m o.2,(x∈o.2)∨(x∈m∧x.isOwn=false):=by
  intro x H;obtain⟨i,hi⟩:=BX H;obtain⟨t',u',q1,q2,B⟩:=pk hi;cases l:t'.isOwn with
  |true=>rw[l,BZ rfl]at B;subst B;exact .inl (BR q2)
  |false=>rw[l,Cd CF]at B;subst B;exact .inr ⟨BR q1,l⟩
 have p:∀x∈m,x.isOwn=false→∀y∈bl x,(Cx.mk w X noY).far y:=by
  intro x H F2 y K;rcases pR (eb hl x H)with q|q|⟨d,z,r,rfl⟩
  ·rw[F2]at q;cases q
  ·rw[q]at K;cases K
  ·exact I1.farX hX (G _ H y K)
 obtain⟨c,e,f,l1,l2⟩:=hm.2.2.1;refine⟨O,U,?_⟩;rw[←qQ (tm:=tm) (t:=h) F1];refine Inv.putF (P:=Po) (Q:=O) I2 (fun x=>if x=b.1 then 1 else 0) (fun x H=>?_) ht (I.val h _ hb) ⟨fun u V=>?_,fun u V J=>?_,⟨⟨c,e,f,by rw[same];exact l1,fun j u hj=>?_⟩,fun c' e' lo F3 W y h1 h2=>?_⟩⟩ (fun u V=>?_) (fun x=>?_)
 ·split at H
  ·rename_i A;subst A;have q0:=F0 b.1 (by simp[ownBl]);refine⟨by simp,?_,q0.1,Cr C g.size⟩;rw[hc,q0.2];rcases CE ((aJ ([o]++rd)).count b.1)with q|q
   ·omega
   ·have:=(R.new b.1 (B8.1 q)).1;rcases this with q'|q'
    ·omega
    ·exact absurd q' L
  ·cases H
 ·rcases n u V with q|⟨q,q2⟩
  ·exact R.holds o (by simp) u q
  ·exact(hm.1 u q).frame fun y K _=>g.same y (p u q q2 y K).1.1 (p u q q2 y K).1.2
 ·rcases n u V with q|⟨q,q2⟩
  ·exact R.own o (by simp) u q J
  ·rw[q2]at J;cases J
 ·obtain⟨t',u',q1,q2,B⟩:=pk hj;obtain⟨y,y1,y2⟩:=l2 j t' q1;refine⟨y,y1,?_⟩;cases l:t'.isOwn with
  |false=>rw[l,Cd CF]at B;subst B;exact y2
  |true =>
   rw[l,BZ rfl]at B;subst B;have F4:j<cs.toList.length:=by rw[←ho.1];exact bE q2
   have Z:=BW F4;have v1:=N j t' _ q1 l Z;have v2:=ho.2 j _ _ q2 Z;cases t' with
   |v x=>cases l
   |any=>cases l
   |s k d z r =>have e1:cs.toList[j]= .slice d.addr r.length d.cap:=v1;have e2:y = .slice d.addr r.length d.cap:=y2;rw[e2, ←e1];exact v2
 ·rw[same]at W;have F5:(eo m o.2).length≤m.length:=by
   have:∀(a b:List DT),(eo a b).length≤a.length:=by
    intro a;induction a with
    |nil=>intro b;cases b<;>simp[eo]
    |cons x a ih=>intro b;cases b with
     |nil=>simp[eo]
     |cons y b=>simp only[eo,Dk];have:=ih b;omega
   exact this m o.2
  exact hm.2.2.2 c' e' lo F3 W y h1 (by omega)
 ·rcases n u V with q|⟨q,q2⟩
  ·exact(M o (by simp) u q).at
  ·rcases pR (eb hl u q)with q'|q'|⟨d,z,r,rfl⟩
   ·rw[q2]at q';cases q'
   ·cases u with
    |v x=>trivial
    |any=>trivial
    |s k d z r=>cases k<;>first|(cases q2;done)|exact G _ q|(have:=eb hl _ q;cases this)
   ·exact G _ q
 ·have q:=tH (ts:=m) (us:=o.2) x;rw[S.cnt];simp only[ownBl,CU];by_cases A:x=b.1
  ·subst A;simp;omega
  ·have:(b.1==x)=false:=by simp;exact fun h=>A h.symm
   simp[this,A];omega
theorem Inv.homePut0 {cx:Cx}{D:DSt}{a:Act}{w w':World}(I:Inv cx D [] a.tmps w){x:Operand}{s:DSl}{D1 D2:DSt}(e:Am.homeTake D x=some (s,D1))(g:GrewH (ownBl s) w w'){o:Bool×List DT}{rd:bA}{v:Value}
  {Y:Nat→Prop} (R:RetOk w (ownBl s) Y w' (cf s) [o] rd v) (m:ey cx ([o]++rd)) (C:pu w' s (a.eval x) o) (i:Am.homePut0 D D1 x o=some D2):∃H,PendOf H (rd.flatMap (·.2))∧Inv cx D2 H a.tmps w':=by
 obtain⟨P,h1,h2,h3,h4,h5⟩:=I.homeTake (Y:=noY) (fun _ _=>id) e;have n:∀{b:Nat×Nat}{us:List DT},Lies w' b us→∀u∈us,∃y,VT u y:=by rintro b us ⟨c,e,f,U,J⟩ u hu;obtain⟨j,V⟩:=BX hu;obtain⟨y,_,hy⟩:=J j u V;exact⟨y,hy⟩
 cases x with
 |tmp t =>
  simp only[Am.homeTake]at e;split at e
  ·rename_i b ts hD;split at e
   case isFalse=>cases e
   cases e;simp only[Am.homePut0,hD]at i;cases i;obtain⟨k,p,o3⟩:=C;have hb:=(h3.own b.1 (by simp[ownBl])).2;exact h1.putBack h2 g R m (by rw[eW];exact bE hD) (s' := .box b o.2) (I.val t _ hD) rfl rfl ⟨p,o3⟩ (.inl ⟨b,rfl,rfl,by simp[ownBl],hb⟩) (n p)
  ·rename_i h off hD;split at e
   case isFalse=>cases e
   split at e
   case h_2=>cases e
   rename_i b ts hb;split at e
   case isFalse=>cases e
   cases e;simp only[Am.homePut0,hD,hb]at i;cases i;obtain⟨k,p,o3⟩:=C;have F3:=(h3.own b.1 (by simp[ownBl])).2;exact h1.putBack h2 g R m (by rw[eW];exact bE hb) (s' := .box b o.2) (I.val h _ hb) rfl rfl ⟨p,o3⟩ (.inl ⟨b,rfl,rfl,by simp[ownBl],F3⟩) (n p)
  ·rename_i h c st lo len hD;split at e
   case h_2=>cases e
   rename_i d z rows hn;split at e
   case isFalse=>cases e
   rename_i hc;obtain⟨rfl,rfl⟩:=hc;rw[BS]at e;obtain⟨D3,F7,e⟩:=e;cases e;simp only[Am.homePut0,hD,hn]at i;split at i
   case h_2=>cases i
   rename_i k0 d0 z0 K d' z' L F4 l;cases F4;split at i
   case isFalse=>cases i
   rename_i hz;subst hz;obtain⟨u,n1,n2,n3,n4,n5,n6⟩:=I.alNode hD hn;obtain⟨k,p⟩:=C;unfold VPart at k;rw[p,l]at k;simp only[Ch,CD]at k;obtain⟨t',r,A⟩:=k;cases r;have W:Value.slice d'.addr L.length d'.cap = .slice d.addr rows.length d.cap:=by have U:a.eval (.tmp t)=_:=A;have J:a.tmps.getD t undef=_:=n6;exact U.symm.trans J
   rw[rq]at g R;obtain⟨D4,H,k1,k2,k3⟩:=I.nodeBack n1 n2 n3 n5 g R m (by rw[l];simp) W;rw[k1]at i;cases i;exact⟨H,k2,k3⟩
  ·rename_i u hD;split at e
   case isFalse M =>
    split at e
    case h_2=>cases e
    rename_i h c hr;split at e
    case h_2=>cases e
    rename_i d z rows hc;rw[BS]at e;obtain⟨D',e1,e3⟩:=e;cases e3;obtain⟨P',U,J,q3,q4,q5,X⟩:=I.nodeTake hc e1;obtain⟨d0,z0,K,g1,g2⟩:=Inv.root hr (I.kind _ (BR hD) u (by simp[af])) (I.val t _ hD);rw[hc]at g1;cases g1;simp only[Am.homePut0,hD]at i;split at i
    case h_2=>cases i
    rename_i d1 z1 N l;rw[Cd M,hr]at i;obtain⟨k,p⟩:=C;unfold VPart at k;rw[p,l]at k;simp only[Ch,CD]at k;obtain⟨t',r,A⟩:=k;cases r;rw[rq]at g R;have O:VT (.s .own d1 z1 N:DT) (.slice d.addr rows.length d.cap):=by have:a.eval (.tmp t)= .slice d.addr rows.length d.cap:=g2;rw[←this];exact A
    exact I.nodePut hc X g R m (by rw[l];simp) O i
   rename_i Z;cases e;simp only[Am.homePut0,hD]at i;split at i
   case h_2=>cases i
   rename_i d z rows l;rw[BZ Z]at i;cases i;obtain⟨k,p⟩:=C;have q:=k.each;unfold VPart at k;rw[p,l]at k;simp only[Ch,CD]at k;obtain⟨t',r,A⟩:=k;cases r;exact h1.putBack h2 g R m (by rw[eW];exact bE hD) (s' := .one (.s .own d z rows)) A l.symm l.symm trivial (.inr (.inl ⟨_,rfl⟩)) q
  ·rename_i ts hD;split at e
   case isFalse M =>
    split at e
    case h_2=>cases e
    rename_i h c j F0;obtain⟨u,_,V,hr⟩:=lu F0;rw[Nat.sub_zero]at V;simp only[Am.homePut0,hD]at i;rw[Cd M,F0]at i;simp only at i;have F:Am.aggNode D ts h c j=some (s,D1)→(o.2[j]?).bind (Am.nodePut D h c)=some D2→∃H,PendOf H (rd.flatMap (·.2))∧Inv cx D2 H a.tmps w':=fun e i=>by
     obtain⟨d,z,rows,g1,g2,g3,P',U,J,q3,q4,q5,X⟩:=I.aggNode hD V hr (Y:=noY) (fun _ _=>id) e;subst g2;rw[g3]at g R;obtain⟨k,p⟩:=C;unfold VPart at k;rw[p]at k;simp only[CI]at k;obtain⟨cs,Q,B⟩:=k;rw[BT]at i;obtain⟨v',hv1,O⟩:=i;have F1:j<cs.toList.length:=by rw[←B.1];exact bE hv1
     obtain⟨S,G,F2⟩:=q3.val D;have F5:S=cs:=by rw[Q]at G;cases G;rfl
     subst F5;have k1:=B.2 j v' _ hv1 (BW F1);have k2:VT (.s .own d z rows:DT) S.toList[j]:=F2.2 j _ _ (by rw[B1 (bE V)]) (BW F1);have k3:S.toList[j]= .slice d.addr rows.length d.cap:=k2;rw[k3]at k1;exact I.nodePut g1 X g R m (BR hv1) k1 O
    split at e
    case h_2 F6 =>
     split at i
     ·rename_i b bs hb;exact absurd hb (F6 b bs)
     ·exact F e i
    rename_i b bs hb;rw[hb]at i;simp only at i;split at e
    case isFalse hc =>rw[Cd hc]at i;exact F e i
    rename_i hc;rw[BZ hc]at i;cases e;cases i;obtain⟨P',U,J,q3,q4,⟨q5,X,q7⟩,q8⟩:=I.boxAgg hD hb hc.1 hc.2.1 (Y:=noY) (fun _ _=>id);obtain⟨k,p⟩:=C;unfold VPart at k;rw[p]at k;simp only[CI]at k;obtain⟨cs,Q,B⟩:=k;exact I.boxBack (D1:=au h D) hb hc.2.1 U J q5 X q7 g R m B (q8 cs Q)
   rename_i hl;split at e
   case isFalse=>cases e
   cases e;simp only[Am.homePut0,hD]at i;rw[BZ hl]at i;cases i;obtain⟨k,p⟩:=C;have q:=k.each;unfold VPart at k;rw[p]at k;exact h1.putBack h2 g R m (by rw[eW];exact bE hD) (s' := .agg o.2) k rfl rfl trivial (.inr (.inr ⟨_,rfl⟩)) q
  ·cases e
 |_=>cases e
section
variable  {δ β : Type}
def pU (o:Bool×List (T δ)):Bool:=match o with|(false,[.any])=>true|_=>false
def homePut (D D1:St δ β)(x:Operand)(o:Bool×List (T δ)):Option (St δ β):=if pU o=true then some D1 else homePut0 D D1 x o
end
theorem x9 (o:Bool×List DT):pU (o.1,erL o.2)=pU o:=by
 obtain⟨g,ts⟩:=o;cases g with
 |true=>rfl
 |false =>
  match ts with
  |[]=>rfl
  |[t]=>cases t<;>first|rfl|(simp only[erL,Cc,Cu,ak];rfl)
  |t::u::ts=>cases t<;>first|rfl|(simp only[erL,Cc,ak];rfl)
theorem vN (D D1:DSt)(x:Operand)(o:Bool×List DT):homePut (erD D) (erD D1) x (o.1,erL o.2)=(homePut D D1 x o).map erD:=by unfold homePut;rw[x9,uw];split<;>rfl
theorem Inv.dropL {cx:Cx}{D:DSt}{P Q:List (DT×Value)}{tm:Array Value}{w:World}(I:Inv cx D (P++Q) tm w):Inv cx D Q tm w where
 size:=I.size
 val:=I.val
 mem:=I.mem
 kind:=I.kind
 pend:=fun p a=>I.pend p (by simp[a])
 once:=fun b=>by have:=I.once b;rw[de]at this;omega
 bnd:=fun b hb=>I.bnd b (by rw[de];omega)
 frame:=I.frame
theorem Inv.homePut {cx:Cx}{D:DSt}{a:Act}{w w':World}(I:Inv cx D [] a.tmps w){x:Operand}{s:DSl}{D1 k:DSt}(e:Am.homeTake D x=some (s,D1))(g:GrewH (ownBl s) w w'){o:Bool×List DT}{rd:bA}{v:Value}
  {Y:Nat→Prop} (R:RetOk w (ownBl s) Y w' (cf s) [o] rd v) (c:ey cx ([o]++rd)) (m:pu w' s (a.eval x) o) (f:Am.homePut D D1 x o=some k):∃h,PendOf h (rd.flatMap (·.2))∧Inv cx k h a.tmps w':=by
 unfold Am.homePut at f;split at f
 ·rename_i i;cases f;obtain⟨P,n,p,q,r,t⟩:=I.homeTake (Y:=noY) (fun _ _=>id) e;have b:∀u∈o.2,∃y,VT u y:=by
   unfold pU at i;split at i
   ·intro u l;rw[B4]at l;subst l;exact⟨.bool true,rfl⟩
   ·cases i
  obtain⟨z,j⟩:=cz b;obtain⟨h,d⟩:=cz R.each;exact⟨h,d,(n.back p g R c j d).1.dropL⟩
 ·exact I.homePut0 e g R c m f
section
variable  {δ β : Type}
def kT (D:St δ β)(x:Operand):Option Nat :=
 match x with
 | .tmp t=>match D[t]? with
  |some (.box _ _)=>some t
  |some (.pb h _)=>some h
  |_=>none
 |_=>none
def kV (h:Nat)(D a:St δ β)(t:Nat):St δ β :=
 match D[t]?,a[t]?,a[h]? with
 |some (.pb b o),some .any,some (.box _ _)=>if b=h∧t≠h then a.set t (.pb h o)else a
 |_,_,_=>a
def repP (D:St δ β)(x:Operand)(a:St δ β):St δ β :=
 match kT D x with
 |some h=>(List.range D.length).foldl (kV h D) a
 |none=>a
theorem xk {t:Nat}{D:St δ β}(h:t<D.length):(au t D)[t]?=some .any:=by unfold au;rw[B1 (by simpa[St.dead]using h)]
theorem uG {D D1 i:St δ β}{x:Operand}{s:Sl δ β}{o:Bool×List (T δ)}(e:homeTake D x=some (s,D1))(a:homePut D D1 x o=some i){h:Nat}(hh:kT D x=some h){b j:β}{ts k:List (T δ)}
  (d:D[h]?=some (.box b ts)) (c:i[h]?=some (.box j k)):j=b:=by
 have f:h<D.length:=bE d;have g:∀{l:β},D1=au h D→l=b→i=av D1 (some h) (.box l o.2)→j=b:=fun {l} m n p=>by subst n;rw[p,m]at c;simp only[av]at c;rw[B1 (by rw[eW,eW];exact f)]at c;simp only[Sl.clean,Sl.dead,Sl.gone,Ck,Sl.box.injEq]at c;exact c.1.symm
 have gone:D1=au h D→i=D1→j=b:=fun m n=>by rw[n,m,xk f]at c;cases c
 unfold kT at hh;split at hh
 case h_2=>cases hh
 rename_i t;unfold homePut at a;simp only[homeTake]at e;split at hh
 ·rename_i q ts0 hb;cases hh;rw[hb]at d;cases d;rw[hb]at e;simp only at e;split at e
  case isFalse=>cases e
  cases e;split at a
  ·cases a;exact gone rfl rfl
  ·simp only[homePut0,hb]at a;cases a;exact g rfl rfl rfl
 ·rename_i r u hb;cases hh;rw[hb]at e;simp only[d]at e;split at e
  case isFalse=>cases e
  split at e
  case isFalse=>cases e
  cases e;split at a
  ·cases a;exact gone rfl rfl
  ·simp only[homePut0,hb,d]at a;cases a;exact g rfl rfl rfl
 ·cases hh
end
theorem Inv.repb {cx:Cx}{D:DSt}{tm:Array Value}{w w':World}(I:Inv cx D [] tm w){k:List (DT×Value)}{h:Nat}:∀(l:List Nat){f:DSt},Inv cx f k tm w'→(∀b ts g a,D[h]?=some (.box b ts)→f[h]?=some (.box g a)→g=b) →
  Inv cx (l.foldl (kV h D) f) k tm w'
 |[],f,c,_=>c
 |t::l,f,c,hb=>by
  rw[Cw];unfold kV;split
  ·rename_i x o g a z d hh;split
   ·rename_i hc;obtain⟨rfl,i⟩:=hc;obtain⟨b,ts,A,B⟩:=I.val t _ z;have m:=hb b ts g a A hh;subst m;have n:t<f.length:=bE d;have r:=Inv.fill (P:=[]) (Q:=k) (by simpa using c) d (s := .pb x o) (y:=tm.getD t undef) (fun s' j=>by obtain⟨u,e⟩:=BX j;exact c.any_refs d (c.val u s' e) (c.kind s' j)) (fun q=>i q.symm) ⟨g,a,hh,B⟩ ⟨fun u e=>by simp[af]at e,fun u e=>by simp[rootsO]at e,trivial⟩ (fun u e=>by simp[af]at e) (fun b=>by simp[ownBl]);rw[qQ (by rw[←c.size];exact n)]at r;refine Inv.repb I l r fun C ts' F p G v=>?_
    rw[B3 i]at v;exact hb C ts' F p G v
   ·exact Inv.repb I l c hb
  ·exact Inv.repb I l c hb
theorem Inv.repP {cx:Cx}{D:DSt}{tm:Array Value}{w w':World}(I:Inv cx D [] tm w){d:List (DT×Value)}{x:Operand}{a:DSt}(e:Inv cx a d tm w')
  (hb:∀h,kT D x=some h→∀b ts f c,D[h]?=some (.box b ts)→a[h]?=some (.box f c)→f=b):Inv cx (repP D x a) d tm w':=by
 unfold Am.repP;split
 ·rename_i h hh;exact Inv.repb I _ e (hb h hh)
 ·exact e
theorem yb (D:DSt)(x:Operand):kT (erD D) x=kT D x:=by
 unfold kT;cases x with
 |tmp t =>
  simp only[aF];cases D[t]? with
  |none=>rfl
  |some s=>cases s<;>rfl
 |_=>rfl
theorem yh (h:Nat)(D a:DSt)(t:Nat):kV h (erD D) (erD a) t=erD (kV h D a t):=by
 unfold kV;simp only[aF];cases f:D[t]? with
 |none=>rfl
 |some s =>
  cases s with
  |pb g o =>
   simp only[BQ,Sl.er];cases c:a[t]? with
   |none=>rfl
   |some d =>
    cases d with
    |any =>
     simp only[BQ,Sl.er];cases hh:a[h]? with
     |none=>rfl
     |some e =>
      cases e with
      |box b ts =>
       simp only[BQ,Sl.er];split
       ·rw[cp];rfl
       ·rfl
      |_=>rfl
    |_=>rfl
  |_=>rfl
theorem y4 (D:DSt)(x:Operand)(a:DSt):repP (erD D) x (erD a)=erD (repP D x a):=by
 have hf:∀(l:List Nat)(h:Nat)(a:DSt),l.foldl (kV h (erD D)) (erD a)=erD (l.foldl (kV h D) a):=by
  intro l h;induction l with
  |nil=>intro a;rfl
  |cons t l b=>intro a;rw[Cw,Cw,yh,b]
 unfold repP;rw[yb,bU];cases kT D x with
 |none=>rfl
 |some h=>exact hf _ h a
abbrev US:=St Unit Unit
def dB (P : Program) (fns : FuncId → Option Func) : Prop := ∀ f fn, fns f = some fn → P.funcs[f]? = some fn ∧ (fn.name == "runtime.NumGoroutine") = false ∧ fn.body.isNone = false
def callTo (D:US)(o:Oper):Option (FuncId×List Operand×List (Unit×List (T Unit))):=
 match o.op with
 | .call c=>match c.callee with| .value x=>(match opd mkU.nil D x with|some (.fni f caps)=>some (f,c.args.toList,caps)|_=>none)|_=>none
 |_=>none
theorem Inv.callTo {cx:Cx}{D:DSt}{a:Act}{w:World}(I:Inv cx D [] a.tmps w){o:Oper}{f:FuncId}{xs:List Operand}{caps:List (Unit×List (T Unit))}(h:callTo (erD D) o=some (f,xs,caps)):
  ∃c x d,o.op = .call c∧c.callee = .value x∧xs=c.args.toList∧caps=d.map (fun p=>((),erL p.2))∧AOk w [] noY (.fni f d) (a.eval x) ∧
   a.eval x = .func (.func f) #[] (d.map fun b=>Value.pointer (some ⟨b.1.1,b.1.2,none⟩)).toArray:=by
 unfold Am.callTo at h;split at h
 case h_2=>cases h
 rename_i c j;split at h
 case h_2=>cases h
 rename_i x e;split at h
 case h_2=>cases h
 rename_i f' l n;cases h;rw[a5,BS]at n;obtain⟨s,q,g⟩:=n;have hv:=(I.opd q).val;cases s with
 |fni i d =>
  simp only[Sl.er,Sl.fni.injEq]at g;obtain⟨rfl,rfl⟩:=g;refine⟨c,x,d,j,e,rfl,rfl,?_,hv⟩;have:Am.argOf mkD D x=some (Sl.fni i d):=by have m:Am.opd mkD.nil D x=some (Sl.fni i d):=q;simp only[Am.argOf,m]
  exact(I.argOf (Out.nil cx D) this).1
 |one u=>cases g
 |im k b ts off=>cases g
 |_=>cases g
theorem ArgsOk.ims {w:World}{X:List Nat}{Y:Nat→Prop}{ad:List DSl}{c:List Value}(h:ArgsOk w X Y ad c){f:FuncId}{caps:List ((Nat×Nat)×List DT)}{y:Value}(g:AOk w X Y (.fni f caps) y):
  ArgsOk w X Y (ad++Am.ims caps) (c++caps.map fun b=>Value.pointer (some ⟨b.1.1,b.1.2,none⟩)):=by
 obtain⟨d,e,j⟩:=h;refine⟨by simp[d,Am.ims],fun i a v hi hv=>?_,fun b=>by rw[CZ,xq,Cp];exact j b⟩;rcases BY i ad.length with q|q
 ·rw[CA q]at hi;rw[CA (by omega)]at hv;exact e i a v hi hv
 ·rw[Cy q]at hi;rw[Cy (by omega), ←d]at hv;exact g.ims _ a v hi hv
theorem tw {caps:List ((Nat×Nat)×List DT)}:∀a∈Am.ims caps,a.isHome=false:=by intro a b;obtain⟨p,_,rfl⟩:=B7.1 b;rfl
def addrSl (D:US)(dst:Option Nat)(offs:List Nat)(xs:List Operand)(caps:List (Unit×List (T Unit))):Option US :=
 match xs,caps with
 |[x],[]=>(fz D x).bind fun h=>bY D dst (.clo (.arr offs) (offs.map fun _=>h))
 |_,_=>none
theorem yg (D:DSt)(dst:Option Nat)(s:DSl):bY (erD D) dst s.er=(bY D dst s).map erD:=iB D dst s
theorem rB {α β:Type}(x:α):∀(l:List β),((l.map fun _=>x).zip l)=l.map fun o=>(x,o)
 |[]=>rfl
 |o::l=>by simp[rB x l]
theorem Inv.addrSl {P:Program}{tab:Tab}(ok:ax P tab){cx:Cx}{D:DSt}{a:Act}{w:World}(I:Inv cx D [] a.tmps w){f:FuncId}{offs:List Nat}(hf:tab.addr.lookup f=some offs){dst:Option Nat}{xs:List Operand}
  {U:US} (e:addrSl (erD D) dst offs xs []=some U):Calls P f (xs.map a.eval).toArray w fun e w'=>∃v,e = .returned v∧∃D',erD D'=U∧Inv cx D' [] (a.put dst v).tmps w':=by
 unfold Am.addrSl at e;split at e
 case h_2=>cases e
 rename_i x _;rw[mn,BT]at e;obtain⟨h,c,n⟩:=e;have j:∃(b:Nat×Nat) (ts:List DT),D[h]?=some (.box b ts)∧a.eval x = .pointer (some ⟨b.1,b.2,none⟩):=by
  unfold fz at c;split at c
  ·rename_i t;split at c
   ·rename_i b ts hb;cases c;exact⟨b,ts,hb,I.val _ _ hb⟩
   ·rename_i q hb;cases c;obtain⟨b,ts,r,s⟩:=I.val _ _ hb;exact⟨b,ts,r,s⟩
   ·cases c
  ·cases c
 obtain⟨b,ts,y,z⟩:=j;have A:=ok.addr _ (bC hf) b w;simp only[Cc,Cu,z];refine A.mono ?_;rintro e w' ⟨rfl,g⟩;refine⟨_,rfl,?_⟩;have m:Inv cx D [] a.tmps w':=I.world (P':=[]) (Out.nil cx D) (g.x []) (fun p B=>by cases B) (fun b hb=>by rw[a6]at hb;cases hb);have C:Tells cx D w' (.clo (.arr offs) (offs.map fun _=>h)) (.agg (offs.map fun o=>Value.pointer (some ⟨b.1,b.2+o,none⟩)).toArray):=by
  refine⟨⟨offs.map fun _=>b,by simp,fun i q F hi hb=>?_,?_⟩,⟨fun u k=>by simp[af]at k,fun u k=>by simp[rootsO]at k,trivial⟩,fun u k=>by simp[af]at k,rfl⟩
  ·rw[B6,BS]at hi hb;obtain⟨_,_,rfl⟩:=hi;obtain⟨_,_,rfl⟩:=hb;exact⟨ts,y⟩
  ·simp only[sL,rB,Ct];rfl
 have l:bY (erD D) dst (Sl.er (.clo (.arr offs) (offs.map fun _=>h)))=some U:=n;rw[yg,BS]at l;obtain⟨D',d,rfl⟩:=l;refine⟨D',rfl,?_⟩;unfold bY at d;split at d
 ·cases d;exact m
 ·split at d
  ·cases d;exact m.putA ‹_› C
  ·cases d
def kJ (a:Bool)(rs:URes):Bool:=a ||rs.all fun r=>r.2.all T.fine
theorem pI {rd:bA}(h:((erR rd).all fun r=>r.2.all T.fine)=true)(cx:Cx):ey cx rd:=fun r b t c=>by have a:=B2.1 h (r.1,erL r.2) (B7.2 ⟨r,b,rfl⟩);rw[show(erL r.2).all T.fine=r.2.all T.fine from bT T.fine T.fine lI r.2]at a;exact KindR.fine (B2.1 a t c)
theorem Inv.mode {cx:Cx}{D:DSt}{P:List (DT×Value)}{a:Act}{w:World}(I:Inv cx D P a.tmps w){X:List Nat}(g:Out cx D X){xs:List Operand}{c:Bool}(d:c=true→xs.all (opdFar mkD D)=true){rs:URes}(h:kJ c rs=true):
  ∃Y:Nat→Prop,(Y=noY∨c=true)∧(∀b,cx.far b→¬Y b)∧(∀x∈xs,∀s,Am.argOf mkD D x=some s→AOk w X Y s (a.eval x)∧s.isHome=false) ∧
   ∀{w':World}{bx:List Nat}{od rd:bA}{v:Value},RetOk w X Y w' bx od rd v→erR (od++rd)=rs→ey cx (od++rd):=by
 by_cases q:(rs.all fun r=>r.2.all T.fine)=true
 ·exact⟨noY,.inl rfl,fun _ _=>id,fun x _ s e=>I.argOf g e,fun _ e=>pI (by rw[e];exact q) cx⟩
 ·have hf:c=true:=by unfold kJ at h;rw[Dy]at h;exact h.resolve_right q
  refine⟨fun b=>¬cx.far b,.inr hf,fun b hb q=>q hb,fun x f s e=>I.argOfF g (fun b hb q=>q hb) (B2.1 (d hf) x f) e,fun R _ r i t j=>?_⟩;exact(R.kind r i t j).imp id fun⟨k,l⟩=>⟨k,fun x f=>Cn fun q=>(l x f).2 q⟩
theorem Inv.modeK {cx:Cx}{D:DSt}{P:List (DT×Value)}{a:Act}{w:World}(I:Inv cx D P a.tmps w){X:List Nat}(f:Out cx D X){xs:List Operand}{o fa:Bool}(c:fa=true→xs.all (opdFar mkD D)=true){rs:URes}(h:kJ (o ||fa) rs=true):
  ∃Y:Nat→Prop,(∀b,cx.far b→¬Y b)∧(∀x∈xs,∀s,Am.argK mkD o D x=some s→AOk w X Y s (a.eval x)∧s.isHome=false) ∧
   ∀{w':World}{bx:List Nat}{od rd:bA}{v:Value},RetOk w X Y w' bx od rd v→erR (od++rd)=rs→ey cx (od++rd):=by
 cases o with
 |true=>exact⟨fun b=>¬cx.far b,fun b hb q=>q hb,fun x _ s e=>I.argO f e,fun R _ r g t i=>(R.kind r g t i).imp id fun⟨j,k⟩=>⟨j,fun x d=>Cn fun q=>(k x d).2 q⟩⟩
 |false =>obtain⟨Y,_,l,m,n⟩:=I.mode f c h;exact⟨Y,l,fun x d s e=>m x d s e,n⟩
theorem AOk.caps {w:World}{X:List Nat}{Y:Nat→Prop}{f:FuncId}{caps:List ((Nat×Nat)×List DT)}{y:Value}(h:AOk w X noY (.fni f caps) y)(a:Y=noY∨caps=[]):AOk w X Y (.fni f caps) y:=by
 rcases a with rfl|rfl
 ·exact h
 ·exact⟨h.val,h.mem,(fun D _ p b=>by cases b),h.own⟩
def stepU (tab:Tab)(fns:FuncId→Option Func)(C:Sem1)(D:US)(o:Oper)(tk:Bool):Option US :=
 match callTo D o with
 |some (f,xs,caps)=>
  if(fns f).isSome then
   match tab.addr.lookup f with
   |some offs=>addrSl D o.dst offs xs caps
   |none =>
   match tab.io.lookup f with
   |none=>(argsW mkU tab f D xs).bind fun as=>(C f (as++ims caps)).bind fun rs=>if kJ (caps.isEmpty&&xs.all (opdFar mkU D)) rs=true then putRet mkU D o.dst rs else none
   |some i =>
    match caps,xs[i]? with
    |[],some x=>(homeTake D x).bind fun r=>(argsIo mkU (tab.ou.contains f) r.2 r.1 i xs).bind fun as=>(C f as).bind fun rs=>if kJ (tab.ou.contains f ||(xs.eraseIdx i).all (opdFar mkU r.2)) rs=true then match rs with|q::rs=>(homePut D r.2 x q).bind fun a=>putRet mkU (repP D x a) o.dst rs|[]=>none else none
    |_,_=>none
  else none
 |none=>bn mkU frU tab D o tk
theorem ru {P:Program}{o:Oper}{c:Call}{x:Operand}{f:FuncId}{fn:Func}{a:Act}{w:World}{d:List Value}(e:o.op = .call c)(b:c.callee = .value x)(g:a.eval x = .func (.func f) #[] d.toArray)
  (l : P.funcs[f]? = some fn) (m : (fn.name == "runtime.NumGoroutine") = false) (k : fn.body.isNone = false) : (execOp a.eval o).run P w = .ok (.enter f (c.args.toList.map a.eval ++ d).toArray) w := by
 have n:(c.args.toList.map a.eval++d).toArray=c.args.map a.eval++d.toArray:=by rw[←C3];simp
 rw[n];simp only[execOp,e,resolve,b,g];have i : ¬ fn.name = "runtime.NumGoroutine" := by simpa using m
 have j:¬fn.body=none:=by intro h;rw[h]at k;cases k
 simp[Deferred.ofValue,invoke,callFunc,l,i,j]
theorem qx {rd:bA}:erR ([]++rd)=erR rd:=rfl
theorem Inv.stepU {P:Program}{tab:Tab}(ok:ax P tab){fns:FuncId→Option Func}(hf:dB P fns){B:Base}{C:Sem1}{cx:Cx}(L:cZ P B C cx){D:DSt}{a:Act}{w:World}(I:Inv cx D [] a.tmps w)
  {o:Oper} {tk:Bool} {U:US} (e:stepU tab fns C (erD D) o tk=some U) {K:Act→World→Prop} {Q:Exit→Act→World→Prop}
  (z:∀D' M w',erD D'=U→(∃y,M=a.put o.dst y)→Inv cx D' [] M.tmps w'→K M w'):o.wp P a w K Q:=by
 unfold Am.stepU at e;split at e
 ·rename_i f xs caps hc;split at e
  case isFalse=>cases e
  rename_i N;obtain⟨fn,O⟩:=Dw.1 N;obtain⟨p1,p2,p3⟩:=hf f fn O;obtain⟨c,x,d,S,A,rfl,rfl,V,W⟩:=I.callTo hc;have X:=ru (w:=w) S A W p1 p2 p3;unfold Oper.wp;rw[X];split at e
  ·rename_i offs u;have j:d=[]:=by
    unfold Am.addrSl at e;split at e
    ·rename_i Z;simpa using Z
    ·cases e
   subst j;have m:=I.addrSl ok u e;simp only[Cu,Cp];refine m.mono ?_;rintro e0 w' ⟨v,rfl,D',n,p⟩;exact z D' _ _ n ⟨_,rfl⟩ p
  split at e
  ·rw[BT]at e;obtain⟨as,m,e⟩:=e;rw[BT]at e;obtain⟨rs,n,p⟩:=e;split at p
   case isFalse=>cases p
   rename_i hB;rw[sP]at m;obtain⟨ad,l,rfl⟩:=BS.1 m;obtain⟨Y,m1,m2,m3,m4⟩:=I.mode (xs:=c.args.toList) (Out.nil cx D) (fun q=>by rw[Cf]at q;rw[←q.2];congr 1;funext y;exact(rg D y).symm) hB;obtain⟨hA,hN⟩:=Inv.argsW m3 l;have F0:=hA.ims (V.caps (m1.imp id fun q=>by rw[Cf]at q;simpa using q.1));have F1:∀s∈ad++ims d,s.isHome=false:=fun s hs=>(Cm.1 hs).elim (hN s) (tw s)
   have k:=L.1 f _ rs n w [] Y (ad++ims d) _ (L.2.at I (Out.nil cx D)) (by rw[Dh,wU]) F0;refine k.mono ?_;rintro e w' ⟨v,od,rd,rfl,g,F,hO,R⟩;have:=OutsOk.none F1 hO;subst this;subst F;rw[qx,rh]at p;obtain⟨D',F2,rfl⟩:=BS.1 p;exact z D' _ _ rfl ⟨_,rfl⟩ (I.putRet g.grew R (by simpa using m4 R rfl) F2)
  ·rename_i i Fa;split at e
   case h_2=>cases e
   rename_i x0 j F3;have F4:d=[]:=by simpa using j
   subst F4;rw[BT]at e;obtain⟨⟨s,D1⟩,m,e⟩:=e;rw[ux]at m;obtain⟨⟨sd,F5⟩,l,F6⟩:=BS.1 m;cases F6;rw[BT]at e;obtain⟨as,n,e⟩:=e;rw[BT]at e;obtain⟨rs,p,e⟩:=e;split at e
   case isFalse=>cases e
   rename_i hB;simp only at n;rw[rb]at n;obtain⟨ad,F7,rfl⟩:=BS.1 n;obtain⟨Fb,F8,F9,_⟩:=I.homeTake (Y:=noY) (fun _ _=>id) l;obtain⟨Y,m2,m3,m4⟩:=F8.modeK (xs:=c.args.toList.eraseIdx i) F9 (fun q=>by rw[←q];congr 1;funext y;exact(rg F5 y).symm) hB;obtain⟨Pd,k1,k2,k3,k4,k5⟩:=I.homeTake m2 l;obtain⟨hA,Fc,t⟩:=Inv.argsIo k3 k4 m3 F3 F7;have k:=L.1 f _ rs p w (ownBl sd) Y ad _ (L.2.at k1 k2) rfl hA;simp only[Cu,Cp];refine k.mono ?_;rintro e0 w' ⟨v,od,rd,rfl,g,F,hO,R⟩;obtain⟨q,rfl,hq⟩:=OutsOk.one k5 t hO;subst F;have G:=m4 R rfl;rw[OneHome.box t]at R;simp only[List.singleton_append,erR,Cc]at e;rw[BT]at e;obtain⟨U2,e1,e2⟩:=e;rw[vN]at e1;obtain⟨D2,H,rfl⟩:=BS.1 e1;obtain⟨Pr,n1,n2⟩:=I.homePut l g R G hq H;have J:Am.putRet mkU (Am.repP (erD D) x0 (erD D2)) o.dst (erR rd)=some U:=e2;rw[y4,rh]at J;replace n2:=I.repP (x:=x0) n2 fun h hh b ts b2 Fe q1 q2=>uG l H hh q1 q2
   obtain⟨D',e3,rfl⟩:=BS.1 J;exact z D' _ _ rfl ⟨_,rfl⟩ (n2.putRetP R (fun r F=>G r (by simp[F])) n1 e3)
 ·rw[yi w]at e;obtain⟨D',e',rfl⟩:=BS.1 e;obtain⟨nx,w',m,n⟩:=mD ok I e';unfold Oper.wp;rw[m];cases n with
  |value y h=>exact z D' _ _ rfl ⟨_,rfl⟩ h
  |skip hd h =>show K (a.put o.dst undef) w';refine z D' _ _ rfl ⟨_,rfl⟩ ?_;rw[hd];exact h
def yieldAt {δ β:Type}(D:St δ β)(t:Nat):Option (Option Bool):=
 match D[t]? with
 |some (.one (.v (.bool b)))=>some (some b)
 |some (.tup [])=>some none
 |_=>none
theorem mp (D:DSt)(t:Nat):yieldAt (erD D) t=yieldAt D t:=by
 unfold yieldAt;rw[aF];cases D[t]? with
 |none=>rfl
 |some s =>
  cases s with
  |one u =>
   cases u with
   |s k d z r=>simp[Sl.er,ak]
   |v x=>cases x<;>rfl
   |any=>rfl
  |tup rs=>cases rs<;>rfl
  |_=>rfl
theorem Inv.yieldAt {cx:Cx}{D:DSt}{P:List (DT×Value)}{tm:Array Value}{w:World}(I:Inv cx D P tm w){t:Nat}{y:Option Bool}(e:yieldAt D t=some y):
  (match tm[t]? with|some (.bool b)=>some b|_=>none)=y:=by
 unfold Am.yieldAt at e;have a:∀s,D[t]?=some s→VS D s (tm.getD t undef)∧tm[t]?=some (tm.getD t undef):=by
  intro s h;have c:t<tm.size:=by
   rw[←I.size];rcases BY t D.length with g|g
   ·exact g
   ·rw[BV g]at h;cases h
  refine⟨I.val t _ h,?_⟩;rw[Cv,Cs c];rfl
 split at e
 ·rename_i i h;cases e;obtain⟨d,f⟩:=a _ h;rw[f,show tm.getD t undef = .bool i from d.1]
 ·rename_i h;cases e;obtain⟨⟨j,d,_⟩,f⟩:=a _ h;rw[f,d]
 ·cases e
theorem Inv.putUndef {cx:Cx}{D:DSt}{a:Act}{w:World}(I:Inv cx D [] a.tmps w){t:Nat}(c:t<D.length):Inv cx (Am.putA D t (.tup [])) [] (a.put (some t) undef).tmps w :=
 I.putA c ⟨⟨#[],rfl,rfl,fun i r v h=>by simp at h⟩,⟨fun u b=>by simp[af]at b,fun u b=>by simp[rootsO]at b,trivial⟩,fun u b=>by simp[af]at b,rfl⟩
def runOps (tab:Tab)(fns:FuncId→Option Func)(C:Sem1)(tk:Nat→Bool)(ops:Array Oper):List Oper→Nat→US→Option US
 |[],_,D=>some D
 |o::r,i,D =>
  match o.guard with
  |none=>(stepU tab fns C D o (tk i)).bind (runOps tab fns C tk ops r (i+1))
  |some (j,a)=>
   match((ops[j]?).bind (·.dst)).bind (yieldAt D)with
   |some b=>if b=some a then(stepU tab fns C D o (tk i)).bind (runOps tab fns C tk ops r (i+1))else
    (match o.dst with|none=>some D|some t=>if t<D.length then some (putA D t (.tup []))else none).bind (runOps tab fns C tk ops r (i+1))
   |none=>none
theorem Inv.runOps2 {P:Program}{tab:Tab}(ok:ax P tab){fns:FuncId→Option Func}(hf:dB P fns){B:Base}{C:Sem1}{cx:Cx}(m:cZ P B C cx){tk:Nat→Bool}{ops:Array Oper}{Q:Exit→Act→World→Prop}{U:US}
  {T:Act→Prop} {l2:List Oper} (n:∀D' p w',erD D'=U→T p→Inv cx D' [] p.tmps w'→wpList P ops Q l2 p w'):∀(l:List Oper)(i:Nat){D:DSt}{a:Act}{w:World},(∀o∈l,∀a y,T a→T (a.put o.dst y))→Inv cx D [] a.tmps w→T a →
   runOps tab fns C tk ops l i (erD D)=some U→wpList P ops Q (l++l2) a w
 |[],i,D,a,w,_,I,hd,e=>by cases e;exact n D a w rfl hd I
 |o::l,i,D,a,w,u,I,hd,e=>by
  have f:∀o∈l,∀a y,T a→T (a.put o.dst y):=fun F h=>u F (by simp[h])
  have x:Region.wanted o (yielded ops a.tmps)=true→(Am.stepU tab fns C (erD D) o (tk i)).bind (Am.runOps tab fns C tk ops l (i+1))=some U→wpList P ops Q (o::(l++l2)) a w:=by intro G e;rw[BT]at e;obtain⟨H,d,q⟩:=e;unfold wpList;rw[BZ G];refine .inl (I.stepU ok hf m d fun D' p w' v r J=>?_);subst v;obtain⟨y,rfl⟩:=r;exact Inv.runOps2 ok hf m n l (i+1) f J (u o (by simp) a y hd) q
  show wpList P ops Q (o::(l++l2)) a w;unfold Am.runOps at e;split at e
  ·rename_i s;exact x (by simp[Region.wanted,s]) e
  ·rename_i j z s;split at e
   case h_2=>cases e
   rename_i b hb;have A:yielded ops a.tmps j=b:=by rw[BT]at hb;obtain⟨t,v,r⟩:=hb;rw[mp]at r;have:=I.yieldAt r;unfold yielded;rw[v];exact this
   split at e
   ·rename_i g;exact x (by simp[Region.wanted,s,A,g]) e
   ·rename_i g;unfold wpList;rw[Cd (by simp[Region.wanted,s,A,g])];rw[BT]at e;obtain⟨H,d,q⟩:=e;split at d
    ·rename_i c;cases d;rw[c];exact Inv.runOps2 ok hf m n l (i+1) f I hd q
    ·rename_i t c;rw[bU]at d;split at d
     case isFalse=>cases d
     rename_i K;cases d;have:=I.putUndef K;have k:=u o (by simp) a undef hd;rw[c]at k ⊢;exact Inv.runOps2 (tk:=tk) ok hf m n l (i+1) f this k (by rw[nU];exact q)
theorem Inv.runOps {P:Program}{tab:Tab}(ok:ax P tab){fns:FuncId→Option Func}(hf:dB P fns){B:Base}{C:Sem1}{cx:Cx}(c:cZ P B C cx){tk:Nat→Bool}{ops:Array Oper}{Q:Exit→Act→World→Prop}{U:US}
  {T:Act→Prop} (d:∀D' b w',erD D'=U→T b→Inv cx D' [] b.tmps w'→Q .normal b w') (l:List Oper) (i:Nat) {D:DSt} {a:Act} {w:World} (f:∀o∈l,∀a y,T a→T (a.put o.dst y)) (I:Inv cx D [] a.tmps w) (hd:T a)
  (e:Am.runOps tab fns C tk ops l i (erD D)=some U):wpList P ops Q l a w:=by
 have:=Inv.runOps2 (l2:=[]) (Q:=Q) ok hf c d l i f I hd e
 rwa [Cp]at this
end Go.Proofs.Yticaelmbkfeeaaa.Am
