/- An abstract machine over trees, and that its steps are sound, a part. Conditions: none. -/
import Derived.Test.YtkgecjmfkcohkaaGreatDoorAma
import Derived.Laws.BytesArg
import Derived.Laws.IdiomStrings
import Derived.Orders
namespace Go.Proofs.YtkgecjmfkcohkaaGreatDoor.Am
open Go
set_option linter.unusedVariables false
set_option linter.unusedSimpArgs false
section
variable  {δ β : Type}
def th (M:Mk δ β)(D:St δ β)(b:Bool)(x:Operand):Option (Nat×List (List (T δ))×St δ β):=
 match b with
 |true =>
  match cellsCopy M D x with
  |some (false,[.s _ _ z2 a])=>if a.all (fun r=>r.all T.flat)=true then some (z2,a,D)else none
  |_=>none
 |false =>
  match cellsTake M D x with
  |some (false,[.s .own _ z2 a],c)=>some (z2,a,c)
  |_=>none
def kz (M:Mk δ β)(F:kU δ β)(tab:Tab)(D:St δ β)(dst:Option Nat)(t t2:Nat)(s x:Operand):Option (St δ β):=
 match tab.ti t,tab.ti t2,dst,cellsTake M D s with
 |some ⟨_,_,_,.slice e⟩,some ⟨_,_,_,.slice _⟩,some c,some (false,[.s .own d z rows],D1)=>
  match tab.ti e with
  |some b =>
   match th M D1 (b.zero.all T.flat) x with
   |some (z2,a,f)=>
    if c<f.length∧b.size=z∧b.size≠0∧b.zero.length=b.size∧z2=z then
     if(rows.length+a.length)*b.bytes≤140737488355328∧rows.length+a.length≤4611686018427387904 then
      some (aT f (some c) (.one (.s .own (F.app d rows.length a.length e) z (rows++a))))
     else none
    else none
   |none=>none
  |none=>none
 |_,_,_,_=>none
end
theorem GY {t:DT}(h:t.flat=true):bl t=[]:=by
 cases t with
 |v x=>rfl
 |any=>rfl
 |s k d z r=>cases h
theorem DE {w:World}{t:DT}(h:t.flat=true):OwnT w t∧Holds w t:=by
 cases t with
 |v x=>exact⟨.v x,.v x⟩
 |any=>exact⟨.any,.any⟩
 |s k d z r=>cases h
theorem Hv {cx:Cx}{D r:DSt}{t:List (DT×Value)}{a:Act}{w:World}(I:Inv cx D t a.tmps w){y:Bool}{x:Operand}{z2:Nat}{c:List (List DT)}(e:th mkD D y x=some (z2,c,r)):
  ∃l k m,Inv cx r (m++t) a.tmps w∧VT (.s l k z2 c) (a.eval x)∧Holds w (.s l k z2 c)∧(∀(i:Nat)(row:List DT)(j:Nat)(u:DT),c[i]?=some row→row[j]?=some u→OwnT w u) ∧
   ∀b,(c.flatMap (fun x=>x.flatMap bl)).count b≤aO m b:=by
 unfold th at e;split at e
 ·split at e
  case h_2=>cases e
  rename_i l k n g o;split at e
  case isFalse=>cases e
  rename_i d;cases e;obtain⟨p,h,f⟩:=I.cellsCopy o;simp only[bZ,Oz,OZ]at f;subst f;refine⟨l,k,[],I,h.v.2 0 _ _ rfl rfl,h.holds _ (OK _),fun i row j u h1 h2=>(DE (On.1 (On.1 d row (N8 h1)) u (N8 h2))).1,fun b => ?_⟩;have:c.flatMap (fun x=>x.flatMap bl)=[]:=by rw[Ox];intro row z;rw[Ox];intro u A;exact GY (On.1 (On.1 d row z) u A)
  rw[this];simp
 ·split at e
  case h_2=>cases e
  rename_i k n g B o;cases e;obtain⟨p,m,C,h,f⟩:=I.cellsTakeP o;simp only[bZ,Oz,OZ]at f;subst f;have F:=h.own _ (OK _) rfl;refine⟨.own,k,m,C,h.v.2 0 _ _ rfl rfl,h.holds _ (OK _),fun i row j u h1 h2 => ?_,fun b => ?_⟩
  ·cases F with
   |nil=>simp at h1
   |s _ _ _ _ _ _ _ _ _ _ _ _ _ q=>exact q i row j u h1 h2
  ·have:=h.cnt b;simp only[Oy,PZ,OC,ownR,T.isOwn,OH,cl,OA]at this;omega
theorem Da {P:Program}{tab:Tab}(ok:bm P tab){cx:Cx}{D D':DSt}{a:Act}{w:World}(I:Inv cx D [] a.tmps w){dst:Option Nat}{t t2 ty:Nat}{s x:Operand}
  (e:kz mkD (frD w) tab D dst t t2 s x=some D'):∃y w',(Builtin.append_ #[t,t2] ty #[a.eval s,a.eval x]).run P w = .ok y w'∧Inv cx D' [] (a.put dst y).tmps w':=by
 unfold kz at e;split at e
 case h_2=>cases e
 rename_i _ _ _ M _ _ _ Sc d' d z rows D1 Rw Rn hs;split at e
 case h_2=>cases e
 rename_i n Rx;split at e
 case h_2=>cases e
 rename_i z2 f D2 hx;split at e
 case isFalse=>cases e
 rename_i hc;split at e
 case isFalse=>cases e
 rename_i hn;cases e;obtain⟨hd,rfl,Sd,Ry,rfl⟩:=hc;obtain⟨Q9,Se⟩:=hn;obtain⟨ys,Ra,I0,G,hv⟩:=I.cellsTake hs;obtain⟨k2,d2,P2,I1,Rz,Ro,S,Rb⟩:=Hv I0 hx;have K:=ff (Tab.ok ok Rw) rfl;have Rc:=ff (Tab.ok ok Rn) rfl;obtain⟨i,dd,zv,g1,Sf,S2,g4,g5,g2,g7,g3⟩:=fz (Tab.ok ok Rx);have S3:zv.cells.size=n.size:=by rw[←Ry,g2];simp[dv]
 simp only[bZ,Oz,OZ]at hv;subst hv;have hy:VT (.s .own d n.size rows) (a.eval s):=G.v.2 0 _ _ rfl rfl;have hH:=G.holds _ (OK _);have hO:=G.own _ (OK _) rfl;have Re:∀b,(bl (.s .own d n.size rows:DT)).count b≤aO Ra b:=fun b=>by have:=G.cnt b;simpa[ownR,T.isOwn]using this
 generalize Rp:P2++Ra=Pd at I1;have N:∀b,(bl (.s .own d n.size rows:DT)).count b+(f.flatMap (fun x=>x.flatMap bl)).count b≤aO Pd b:=fun b=>by have h1:=Re b;have h2:=Rb b;rw[←Rp,gF,QC (aO P2 b)];exact Nat.add_le_add h1 h2
 obtain⟨C,R1,o1,c1⟩:=hH.cells (by omega);obtain⟨l,R2,o2,c2⟩:=Ro.cells (by omega);have O:∀(i:Nat)(row:List DT)(j:Nat)(u:DT),f[i]?=some row→row[j]?=some u→Holds w u:=fun i row j u h1 h2=>by
  cases Ro with
  |e=>simp at h1
  |s _ _ _ _ _ _ c' e' f' H _ _ R3 U=>exact U i row j u h1 h2
 have V:a.eval s = .slice d.addr rows.length d.cap:=hy;have Rq:a.eval x = .slice d2.addr f.length d2.cap:=Rz;have S4:l.length=f.length*i.size:=by rw[g4];exact R2.len
 have S5:∀w0:World,(∀a,w0.cell? a=w.cell? a)→Src P i.size t2 (a.eval x) f.length l w0:=by
  intro w0 S6;rw[Rq];rcases c2 with⟨rfl,rfl⟩|⟨q1,W,q3⟩
  ·cases J:d2.addr with
   |none=>exact Src.ofNil w0 Rc d2.cap
   |some ad=>exact Src.ofSlice w0 Rc ad 0 d2.cap [] (by simp) (fun j u h=>by simp at h) (fun u h=>by cases h)
  ·have J:d2.addr=some ⟨d2.b,d2.o,none⟩:=by rw[Dec.addr_none W,q1];rfl
   rw[J];exact Src.ofSlice w0 Rc _ _ _ l S4 (fun j u h=>by rw[S6,Addr.add_lit];exact q3 j u h) o2
 have hS:=S5 w (fun _=>rfl);by_cases hroom:rows.length+f.length≤d.cap
 ·
  have X:(frD w).app d rows.length f.length M=d:=by simp only[frD];rw[N5 hroom]
  rw[X];cases hO with
  |nil _ _ F hsp hcap =>
   rw[hcap]at hroom;have h2:f=[]:=Pi.1 (by have h:=hroom;rw[Q1]at h;omega);subst h2;have Rf:l=[]:=Pi.1 (by rw[R2.len];simp);subst Rf;have J:d.addr=none:=by rw[Dec.addr_none hsp,F];rfl
   refine⟨a.eval s,w,?_,?_⟩
   ·rw[V,J,hcap];have hk:=hS.kind;have S7:(Builtin.firstCells i.size 0 (a.eval x)).run P w = .ok #[] w:=by simpa using hS.cells
    rcases hk with⟨e',hk⟩|hk <;>
     simp[Builtin.append_,run_underlying K,run_underlying hk,sizeOf,typeInfo,g1,hS.len,S7]
   ·have hG:Got cx D2 w Pd [(.s .own d n.size []:DT)] [a.eval s]:=⟨G.v,G.holds,G.own,fun u K=>by rw[Oc]at K;subst K;trivial,fun b=>by
     have h1:=G.cnt b;have h3:aO Pd b=aO P2 b+aO Ra b:=by rw[←Rp,gF]
     omega⟩
    exact I1.putGot (g:=false) (s := .one (.s .own d n.size ([]++[]))) hG (by simp[bZ]) rfl (fun t' h=>by cases h;exact hd) rfl
  |s _ _ _ F hsp c ec lo hi hb hcap R4 Rr Rg =>
   have J:d.addr=some ⟨d.b,d.o,none⟩:=by rw[Dec.addr_none hsp,F];rfl
   have S8:(rows.length+f.length)*n.size≤d.cap*n.size:=Pj _ hroom;rw[Pw]at S8;have Sa:l.length=f.length*n.size:=R2.len;have Q:d.o+rows.length*n.size+l.length≤c.size:=by omega
   have r:=run_append_room_src (P:=P) w t t2 ty M i K g1 d.b d.o rows.length d.cap (a.eval x) f.length l hS hroom
    (fun j hj=>by rw[pT hb,g4,ON (by omega)];rfl)
    (fun j hj=>by have hx:=Rr (d.o+rows.length*n.size+j) (by omega) (by omega);rw[g4];simp only[World.frozen?,hb];simp;omega)
   rw[←J, ←V,g4]at r;obtain⟨f1,f2,f3,f4,f5,f6⟩:=jj d.b ec (lo,hi) l (d.o+rows.length*n.size) w c hb Q;generalize Sg:w.setCells d.b (d.o+rows.length*n.size) l=w' at r f1 f2 f3 f4 f5 f6;have R8:d.b∈bl (.s .own d n.size rows:DT):=j8 F;have hB:0<aO Pd d.b:=OM (Ot.2 R8) (by have:=N d.b;omega);have Sb:(bl (.s .own d n.size rows:DT)).count d.b+(f.flatMap (fun x=>x.flatMap bl)).count d.b≤1:=O1 (N d.b) (by have:=I1.once d.b;omega);have R5:∀(m:Nat)(A:List DT)(j:Nat)(u:DT),rows[m]?=some A→A[j]?=some u→d.b∉bl u:=by intro m A j u h1 h2 hm;have q1:=CQ (k := .own) (d:=d) (z:=n.size) h1 h2 d.b;rw[F]at q1;simp only[Oz,OZ]at q1;have q3:0<(bl u).count d.b:=Ot.2 hm;simp at q1;omega
   have Y:∀(m:Nat)(A:List DT)(j:Nat)(u:DT),f[m]?=some A→A[j]?=some u→d.b∉bl u:=by intro m A j u h1 h2 hm;have q0:0<(bl (.s .own d n.size rows:DT)).count d.b:=Ot.2 R8;have q1:0<(f.flatMap (fun x=>x.flatMap bl)).count d.b:=Ot.2 (Oj.2 ⟨A,N8 h1,Oj.2 ⟨u,N8 h2,hm⟩⟩);omega
   have gx:CO d.b w w':=⟨f4,f5,f6,by omega,fun b H _=>f2 b H⟩
   have Rh:d.o+rows.length*n.size+l.length≤c.toList.length:=by simpa using Q
   have Z:∀(m:Nat)(row:List DT),(rows++f)[m]?=some row→row.length=n.size:=fun m row h=>(R1.append R2).row m row h
   have Q7:∀(m:Nat)(row:List DT)(j:Nat)(u:DT),(rows++f)[m]?=some row→row[j]?=some u →
     (rows[m]?=some row∧m<rows.length)∨(f[m-rows.length]?=some row∧rows.length≤m):=by
    intro m row j u h1 h2;rcases Od m rows.length with q|q
    ·rw[OY q]at h1;exact .inl ⟨h1,q⟩
    ·rw[OU q]at h1;exact .inr ⟨h1,q⟩
   have Rs:∀(m:Nat)(row:List DT)(j:Nat)(u:DT),(rows++f)[m]?=some row→row[j]?=some u→∃y,((an c.toList (d.o+rows.length*n.size) l).toArray)[d.o+m*n.size+j]?=some y∧VT u y:=by
    intro m row j u h1 h2;have S9:j<n.size:=by
     have:=Z m row h1;rcases Od j row.length with q|q
     ·omega
     ·rw[Ob q]at h2;cases h2
    simp only[Qk];rcases Q7 m row j u h1 h2 with⟨q1,W⟩|⟨q1,W⟩
    ·have Ri:=mN W S9;cases hH with
     |e=>simp at W
     |s _ _ _ _ _ _ c' e' f' H _ _ R3 _ =>rw[hb]at H;cases H;obtain⟨y,y1,y2⟩:=R3 m row j u q1 h2;refine⟨y,?_,y2⟩;rw[jP Rh (by omega)];simpa using y1
    ·obtain⟨y,y1,y2⟩:=R2.val _ row j u q1 h2;refine⟨y,?_,y2⟩;have e1:(m-rows.length)*n.size=m*n.size-rows.length*n.size:=Nat.sub_mul _ _ _;have e2:rows.length*n.size≤m*n.size:=Pj _ W;have Ri:m*n.size-rows.length*n.size+j<l.length:=by
      rcases Od ((m-rows.length)*n.size+j) l.length with p|p
      ·omega
      ·rw[Ob p]at y1;cases y1
     rw[dP Rh,Oh (by omega),N5 (by omega)];rw[show d.o+m*n.size+j-(d.o+rows.length*n.size)=(m-rows.length)*n.size+j by omega];exact y1
   have B:∀u:DT,d.b∉bl u→∀b∈bl u,b<w.heap.size→w'.heap[b]?=w.heap[b]?:=fun u K b H _=>f2 b (fun e=>K (e ▸ H))
   have L:∀(m:Nat)(row:List DT)(j:Nat)(u:DT),(rows++f)[m]?=some row→row[j]?=some u→Holds w' u∧OwnT w' u:=by
    intro m row j u h1 h2;rcases Q7 m row j u h1 h2 with⟨q1,W⟩|⟨q1,W⟩
    ·have Q8:=R5 m row j u q1 h2;refine⟨?_,(Rg m row j u q1 h2).frame (B u Q8)⟩;cases hH with
     |e=>simp at W
     |s _ _ _ _ _ _ c' e' f' H _ _ R3 U=>exact(U m row j u q1 h2).frame (B u Q8)
    ·have Q8:=Y _ row j u q1 h2;exact⟨(O _ row j u q1 h2).frame (B u Q8),(S _ row j u q1 h2).frame (B u Q8)⟩
   have R6:Holds w' (.s .own d n.size (rows++f)):= .s _ _ _ _ F hsp _ ec (lo,hi) f1 (by simpa using hroom) Z Rs (fun m row j u h1 h2=>(L m row j u h1 h2).1);have R7:OwnT w' (.s .own d n.size (rows++f)):= .s _ _ _ F hsp _ ec lo hi f1 (by simpa using hroom) (by simp only[QU];rw[jO Rh];simpa using R4) Rr (fun m row j u h1 h2=>(L m row j u h1 h2).2);have Rt:VT (.s .own d n.size (rows++f)) (.slice d.addr (rows.length+f.length) d.cap):=by simp[VT]
   have Rj:∀b,(bl (.s .own d n.size (rows++f):DT)).count b≤aO Pd b:=fun b=>by have:=N b;rw[cl,OA]at this ⊢;rw[Pn,OA, ←Pv];exact this
   have I2:=I1.pendWrite (P:=Pd) hB gx Rt R6 R7 rfl Rj;refine⟨_,w',r,?_⟩;refine I2.putGot (g:=false) (ts:=[.s .own d n.size (rows++f)]) (ys:=[.slice d.addr (rows.length+f.length) d.cap]) ⟨.one Rt,fun u K => ?_,fun u K _ => ?_,fun u K => ?_,fun b => ?_⟩ (by simp[bZ]) rfl (fun t' h=>by cases h;exact hd) rfl
   ·rw[Oc]at K;subst K;exact R6
   ·rw[Oc]at K;subst K;exact R7
   ·rw[Oc]at K;subst K;trivial
   ·simp[aO]
 ·
  have X:(frD w).app d rows.length f.length M=⟨w.heap.size,0,grownCap w (rows.length+f.length) d.cap M,false,none⟩:=by simp only[frD];rw[Oh hroom]
  rw[X];have Q:=growslice_fits (need:=rows.length+f.length) (old:=d.cap) (bytes:=n.bytes) (by omega) Q9;have Ru:(Builtin.firstCells i.size rows.length (.slice d.addr rows.length d.cap)).run P w.drew = .ok C.toArray w.drew:=by
   rcases c1 with⟨rfl,rfl⟩|⟨q1,W,q3⟩
   ·cases J:d.addr with
    |none=>exact run_firstCells_none w.drew _ _ _ _
    |some ad=>exact run_firstCells_some w.drew i.size 0 ad 0 d.cap [] (by simp) (fun j u h=>by simp at h)
   ·have J:d.addr=some ⟨d.b,d.o,none⟩:=by rw[Dec.addr_none W,q1];rfl
    rw[J];exact run_firstCells_some w.drew i.size rows.length _ _ _ C (by rw[g4];exact R1.len) (fun j u h=>by rw[Addr.add_lit];exact q3 j u h)
  have r:=run_append_grow_src (P:=P) w t t2 ty M i zv K g1 S2 d.addr rows.length d.cap C Ru (a.eval x) f.length l hS (by omega) (by omega) (by rw[g5];exact Q);rw[←V]at r;have Rk:=grownCap_ge w (rows.length+f.length) d.cap M;generalize Si:grownCap w (rows.length+f.length) d.cap M=gc at r Rk;have R:=R1.append R2;generalize Rv:(C++l).toArray++Builtin.zeroCells zv.cells (gc-(rows.length+f.length))=cells at r;have Rl:cells.size=gc*n.size:=by rw[←Rv,Array.size_append,size_zeroCells,S3,QU,R.len, ←Pw];congr 1;simp;omega
  have g:=(Grew.drew w).trans (Grew.alloc w.drew (.cells cells M));have R9:(w.drew.alloc (.cells cells M)).heap[w.heap.size]?=some (.cells cells M (0,0)):=by show(w.heap.push _)[w.heap.size]?=_;simp
  have Rm:∀(j:Nat)(u:Value),(C++l)[j]?=some u→cells[j]?=some u:=by
   intro j u h;have Ri:j<(C++l).length:=by
    rcases Od j (C++l).length with q|q
    ·exact q
    ·rw[Ob q]at h;cases h
   rw[←Rv,PQ (by simpa using Ri)];simpa using h
  have L:∀(m:Nat)(row:List DT)(j:Nat)(u:DT),(rows++f)[m]?=some row→row[j]?=some u→Holds (w.drew.alloc (.cells cells M)) u∧OwnT (w.drew.alloc (.cells cells M)) u:=by
   intro m row j u h1 h2;rcases Od m rows.length with q|q
   ·rw[OY q]at h1;refine⟨?_,?_⟩
    ·cases hH with
     |e=>simp at q
     |s _ _ _ _ _ _ c' e' f' H _ _ R3 U=>exact(U m row j u h1 h2).frame fun b _ hb=>g.same b hb
    ·cases hO with
     |nil=>simp at q
     |s _ _ _ _ _ _ _ _ _ _ _ _ _ Rg=>exact(Rg m row j u h1 h2).frame fun b _ hb=>g.same b hb
   ·rw[OU q]at h1;exact⟨(O _ row j u h1 h2).frame fun b _ hb=>g.same b hb,(S _ row j u h1 h2).frame fun b _ hb=>g.same b hb⟩
  have R6:Holds (w.drew.alloc (.cells cells M)) (.s .own ⟨w.heap.size,0,gc,false,none⟩ n.size (rows++f)):=by refine .s _ _ _ _ rfl rfl _ M (0,0) R9 (by simpa using Rk) R.row (fun m row j u h1 h2 => ?_) (fun m row j u h1 h2=>(L m row j u h1 h2).1);obtain⟨y,y1,y2⟩:=R.val m row j u h1 h2;exact⟨y,by simpa using Rm _ _ y1,y2⟩
  have R7:OwnT (w.drew.alloc (.cells cells M)) (.s .own ⟨w.heap.size,0,gc,false,none⟩ n.size (rows++f)):=
   .s _ _ _ rfl rfl _ M 0 0 R9 (by simpa using Rk) (by simp[Rl]) (fun x _ _ h=>by omega) (fun m row j u h1 h2=>(L m row j u h1 h2).2)
  refine⟨_,_,r,I1.newRows (P:=Pd) g (by simp) (d:=⟨w.heap.size,0,gc,false,none⟩) ⟨rfl,rfl⟩ R6 R7 (fun b => ?_) hd (by simp[VT,Dec.addr])⟩;rw[Pn,OA];have:=N b;rw[cl,OA]at this;exact O1 (Nat.add_le_add_right (Nat.le_add_left _ _) _) this
section
variable  {δ β : Type}
def dz:List (List (T δ))→Option (List Int)|[]=>some []|[.v (.int .u8 n)]::r=>(dz r).map fun l=>n::l|_::_=>none
def kA (M:Mk δ β)(tab:Tab)(D:St δ β)(a dst:Nat)(x:Operand):Option (List (List (T δ))):=
 match tab.ti a,tab.ti dst,cellsCopy M D x with
 |some ⟨_,_,_,.slice e⟩,some ⟨_,_,_,.str⟩,some (false,[.s _ _ 1 rows])=>match tab.ti e with|some ⟨_,_,_,.int .u8⟩=>some rows|_=>none
 |_,_,_=>none
end
theorem xk:∀{rows:List (List DT)}{xs:List Int},dz rows=some xs→rows=xs.map fun n=>[.v (.int .u8 n)]
 |[],xs,h=>by cases h;rfl
 |r::rs,xs,h=>by
  unfold dz at h;split at h
  ·rename_i a;cases a
  ·rename_i n c a;cases a;rw[N9]at h;obtain⟨l,b,rfl⟩:=h;rw[xk b];rfl
  ·cases h
theorem zV {P:Program}{tab:Tab}(ok:bm P tab){cx:Cx}{D:DSt}{a:Act}{w:World}(I:Inv cx D [] a.tmps w){c dst:Nat}{x:Operand}{rows:List (List DT)}{xs:List Int}
  (e:kA mkD tab D c dst x=some rows) (B:dz rows=some xs):(convert c dst (a.eval x)).run P w = .ok (.string (strOfNums xs)) w:=by
 unfold kA at e;split at e
 case h_2=>cases e
 rename_i _ _ _ q _ _ _ k d r hs hd C;split at e
 case h_2=>cases e
 rename_i F;cases e;obtain⟨ys,G,hv⟩:=I.cellsCopy C;simp only[bZ,Oz,OZ]at hv;subst hv;have s:=ff (Tab.ok ok hs) rfl;have f:=sX (Tab.ok ok hd) rfl;have l:=zE (Tab.ok ok F) rfl;have H:VT (.s k d 1 rows) (a.eval x):=G.v.2 0 _ _ rfl rfl;have J:=G.holds _ (OK _);have u:=xk B;obtain⟨cs,R,O,K⟩:=J.cells (by omega);have g:rows.length=xs.length:=by rw[u];simp
 have m:a.eval x = .slice d.addr rows.length d.cap:=H;rw[m];rcases K with⟨z,Q⟩|⟨q1,L,M⟩
 ·have t:xs=[]:=Pi.1 (by rw[←g,z];rfl);subst t;rw[z];cases n:d.addr with
  |none=>exact run_convert_bytes_nil w c q s l 0 d.cap dst f
  |some ad =>
   have hsp:(convert c dst (.slice (some ad) 0 d.cap)).run P w = .ok (.string (strOfNums [])) w:=by obtain⟨b,o,sp⟩:=ad;rw[run_convert_bytes_string w c dst q _ 0 d.cap s l f];rw[run_bytesToString w ⟨b,o,sp⟩ 0 d.cap [] (run_loadCells_list w ⟨b,o,sp⟩ [] (fun j v h=>by simp at h))];rfl
   exact hsp
 ·have n:d.addr=some ⟨d.b,d.o,none⟩:=by rw[Dec.addr_none L,q1];rfl
  rw[n];refine run_convert_bytes_arg w c q s l d.b d.o rows.length d.cap xs g.symm (fun i hi => ?_) dst f;have p:rows[i]?=some [.v (.int .u8 (xs.getD i 0))]:=by rw[u,Ok,List.getD_eq_getElem?_getD,Oa (by omega)];rfl
  obtain⟨y,A,N⟩:=R.val i _ 0 _ p rfl;rw[show y=_ from N.1]at A;have:=M (i*1+0) _ A;rw[show d.o+(i*1+0)=d.o+i by omega]at this;exact this
section
variable  {δ β : Type}
def ix (s:ByteArray):List (List (T δ)):=s.data.toList.map fun b=>[.v (.int .u8 (b.toNat:Int))]
def fK (M:Mk δ β)(F:kU δ β)(tab:Tab)(D:St δ β)(dst:Option Nat)(a t:Nat)(x:Operand):Option (St δ β):=
 match tab.ti a,tab.ti t,dst,opd M.nil D x with
 |some ⟨_,_,_,.str⟩,some ⟨_,_,_,.slice e⟩,some d,some (.one (.v (.string s)))=>
  match tab.ti e with
  |some ⟨1,_,_,.int .u8⟩=>if d<D.length then some (aT D (some d) (.one (.s .own (F.str s.size e) 1 (ix s))))else none
  |_=>none
 |_,_,_,_=>none
end
theorem A8 {P:Program}{tab:Tab}(ok:bm P tab){cx:Cx}{D D':DSt}{a:Act}{w:World}(I:Inv cx D [] a.tmps w){dst:Option Nat}{v t:Nat}{x:Operand}
  (e:fK mkD (frD w) tab D dst v t x=some D'):∃y w',(convert v t (a.eval x)).run P w = .ok y w'∧Inv cx D' [] (a.put dst y).tmps w':=by
 unfold fK at e;split at e
 case h_2=>cases e
 rename_i _ _ _ _ _ _ l d s hs H J;split at e
 case h_2=>cases e
 rename_i K;split at e
 case isFalse=>cases e
 rename_i hd;cases e;have L:=sX (Tab.ok ok hs) rfl;have B:=ff (Tab.ok ok H) rfl;have C:=zE (Tab.ok ok K) rfl;have F:a.eval x = .string s:=(I.opd J).val.1;have f:=run_bytes_of_string (P:=P) w v t l s L B C;rw[←F]at f;have z:=grownCap_ge w s.size 0 l;have M:(frD w).str s.size l=⟨w.heap.size,0,grownCap w s.size 0 l,false,none⟩:=rfl;rw[M];generalize grownCap w s.size 0 l=p at f z;have m:(bytesRow s p).size=p:=by unfold bytesRow;have:s.data.size=s.size:=rfl;simp[this];omega
 have A:∀j (G:j<s.data.size),(bytesRow s p)[j]?=some (.int .u8 (s.data[j].toNat:Int)):=fun j G=>bytesRow_at s p j G
 generalize bytesRow s p=cells at f m A;have g:=(Grew.drew w).trans (Grew.alloc w.drew (.cells cells l (cells.size,cells.size+1)));have r:(w.drew.alloc (.cells cells l (cells.size,cells.size+1))).heap[w.heap.size]?=some (.cells cells l (cells.size,cells.size+1)):=by show(w.heap.push _)[w.heap.size]?=_;simp
 have c:∀(i:Nat)(row:List DT),(ix s:List (List DT))[i]?=some row→∃h:i<s.data.size,row=[.v (.int .u8 (s.data[i].toNat:Int))]:=by
  intro i row h;unfold ix at h;rw[Ok,N9]at h;obtain⟨b,n,rfl⟩:=h;have hi:i<s.data.size:=by
   rcases Od i s.data.toList.length with q|q
   ·simpa using q
   ·rw[Ob q]at n;cases n
  refine⟨hi,?_⟩;rw[Oa (by simpa using hi)]at n;cases n;simp
 have o:(ix s:List (List DT)).length=s.size:=by unfold ix;simp
 have N:Holds (w.drew.alloc (.cells cells l (cells.size,cells.size+1))) (.s .own ⟨w.heap.size,0,p,false,none⟩ 1 (ix s)):=by
  refine .s _ _ _ _ rfl rfl _ l _ r (by rw[o];exact z) (fun i row h => ?_) (fun i row j u n k => ?_) (fun i row j u n k => ?_)
  ·obtain⟨_,rfl⟩:=c i row h;rfl
  ·obtain⟨hi,rfl⟩:=c i row n;cases j with
   |zero =>simp only[O2,OJ]at k;subst k;exact⟨_,by simpa using A i hi,rfl,rfl⟩
   |succ j=>simp at k
  ·obtain⟨hi,rfl⟩:=c i row n;cases j with
   |zero=>simp only[O2,OJ]at k;subst k;exact .v _
   |succ j=>simp at k
 have O:OwnT (w.drew.alloc (.cells cells l (cells.size,cells.size+1))) (.s .own ⟨w.heap.size,0,p,false,none⟩ 1 (ix s)):=by
  refine .s _ _ _ rfl rfl _ l _ _ r (by rw[o];exact z) (by simp[m]) (fun q n k h=>by simp at k;omega) (fun i row j u n k => ?_);obtain⟨hi,rfl⟩:=c i row n;cases j with
  |zero=>simp only[O2,OJ]at k;subst k;exact .v _
  |succ j=>simp at k
 refine⟨_,_,f,I.newRows (P:=[]) g (by simp) (d:=⟨w.heap.size,0,p,false,none⟩) ⟨rfl,rfl⟩ N O (fun b => ?_) hd (by simp[VT,Dec.addr,o])⟩;have:(ix s:List (List DT)).flatMap (fun x=>x.flatMap Am.bl)=[]:=by rw[Ox];intro row Q;obtain⟨i,hi⟩:=Og Q;obtain⟨_,rfl⟩:=c i row hi;rfl
 rw[this];simp
section
variable  {δ β : Type}
def lA (D:St δ β)(x:Operand)(dst:Option Nat):Option (St δ β):=
 match x,dst with
 | .tmp t,some d =>
  match D[t]? with
  |some (.tup rs)=>if d<D.length∧(rs.all fun r=>r.2.all T.noLent)=true then some (aT (D.set t .any) (some d) (.tup rs))else none
  |_=>none
 |_,_=>none
end
theorem Bz:∀(us:List DT),(∀u∈us,∃v,VT u v)→∃a:List Value,us.length=a.length∧∀p∈us.zip a,p.1∈us∧VT p.1 p.2
 |[],_=>⟨[],rfl,fun p hp=>by cases hp⟩
 |u::us,h=>by
  obtain⟨v,hv⟩:=h u (by simp);obtain⟨a,c,b⟩:=Bz us fun u d=>h u (by simp[d])
  refine⟨v::a,by simp[c],fun p hp => ?_⟩;rw[List.zip_cons_cons]at hp;rcases OB.1 hp with rfl|hp
  ·exact⟨by simp,hv⟩
  ·exact⟨by simp[(b p hp).1],(b p hp).2⟩
theorem CN {cx:Cx}{D D':DSt}{a:Act}{w:World}(I:Inv cx D [] a.tmps w){dst:Option Nat}{x:Operand}(e:lA D x dst=some D'):Inv cx D' [] (a.put dst (a.eval x)).tmps w:=by
 unfold lA at e;split at e
 case h_2=>cases e
 rename_i t d;split at e
 case h_2=>cases e
 rename_i rs hD;split at e
 case isFalse=>cases e
 rename_i hc;cases e;obtain⟨hd,C⟩:=hc;have g:=N8 hD;have n:=I.val t _ hD;obtain⟨N,R,o,f⟩:=n;have F:=I.mem _ g;have l:∀u∈aj (.tup rs:DSl),bz cx D u:=I.kind _ g;have O:∀u∈aj (.tup rs:DSl),u.noLent=true:=by intro u c;obtain⟨r,G,c⟩:=Oj.1 c;exact On.1 (On.1 C r G) u c
 have hv:∀u∈aj (.tup rs:DSl),∃v,VT u v:=by
  intro u c;obtain⟨r,G,c⟩:=Oj.1 c;obtain⟨j,H⟩:=Og G;have S:j<rs.length:=by
   rcases Od j rs.length with q|q
   ·exact q
   ·rw[Ob q]at H;cases H
  have m:=f j r N.toList[j] H (Oa (by omega));unfold VPart at m;split at m
  ·obtain⟨cs,i,B,U⟩:=m;obtain⟨k,l⟩:=Og c;have V:k<r.2.length:=by
    rcases Od k r.2.length with q|q
    ·exact q
    ·rw[Ob q]at l;cases l
   exact⟨_,U k u _ l (Oa (by omega))⟩
  ·obtain⟨t',i,B⟩:=m;rw[i,Oc]at c;subst c;exact⟨_,B⟩
 obtain⟨J,W,hz⟩:=Bz _ hv;have y:=mm _ J W;have hb:∀b,((aj (.tup rs:DSl)).flatMap ownR).count b=(ownBl (.tup rs:DSl)).count b:=by intro b;show((rs.flatMap (·.2)).flatMap ownR).count b=(rs.flatMap fun r=>r.2.flatMap ownR).count b;rw[List.flatMap_assoc]
 have X:=I.swap (Q:=(aj (.tup rs:DSl)).zip J) (s := .any) hD (fun s' A=>by obtain⟨u,c⟩:=Og A;exact I.tup_refs hD (I.val u s' c) (I.kind s' A)) (fun h=>h) trivial
  ⟨fun u c=>(by cases c),fun u c=>(by cases c),trivial⟩ (fun u c=>(by cases c))
  (fun p m=>by
   obtain⟨i,B⟩:=hz p m;refine⟨B,F.1 _ i,F.2.1 _ i,fun Y x K => ?_⟩;have L:=l _ i;have M:=O _ i;generalize p.1=u at *;cases u with
   |v x=>simp[bl]at K
   |any=>simp[bl]at K
   |s k d z r=>cases k<;>first|exact L x K|(cases M;done)|(cases Y;done))
  (fun b=>by rw[y b,hb b,cq];show([]:List Nat).count b+_≤_;simp)
 exact Inv.put (P:=(aj (.tup rs:DSl)).zip J) (Q:=[]) (by rw[OC];exact X) (by simpa using hd) (s := .tup rs) ⟨N,R,o,f⟩ F (fun u c=>pV (O u c) (l u c)) (fun b=>by rw[y b,hb b];exact OP _)
section
variable  {δ β : Type}
def iR (M:Mk δ β)(F:kU δ β)(tab:Tab)(D:St δ β)(dst:Option Nat)(t len:Nat)(a:List (Nat×Operand)):Option (St δ β):=
 match tab.ti t,dst,a with
 |some ⟨_,_,_,.slice e⟩,some d,[(0,x)]=>
  match tab.ti e,cellsTake M D x with
  |some b,some (_,us,D1)=>
   if len=1∧d<D1.length∧b.size≠0∧b.zero.length=b.size∧b.size≤2 ^ 24∧us.length=b.size∧us.all (fun u=>u.isOwn ||u.flat)=true then
    some (aT D1 (some d) (.one (.s .own (F.row 1) b.size [us])))
   else none
  |_,_=>none
 |_,_,_=>none
def mz (M:Mk δ β)(tab:Tab)(D:St δ β)(t:Nat)(p:Operand)(z:Nat):Option (St δ β):=
 match tab.ti t with
 |some ti=>if ti.size=1 then(opd M.nil D p).bind fun p=>gY D p [.s .own M.nil z []]else none
 |none=>none
end
theorem Gg {w:World}{u:DT}(h:(u.isOwn ||u.flat)=true)(b:u.isOwn=true→OwnT w u):OwnT w u∧ownR u=bl u:=by
 cases a:u.isOwn with
 |true=>exact⟨b a,by simp[ownR,a]⟩
 |false =>rw[a,QQ]at h;exact⟨(DE h).1,by simp[ownR,a,GY h]⟩
theorem wO {P:Program}{tab:Tab}(ok:bm P tab){cx:Cx}{D D':DSt}{a:Act}{w:World}(I:Inv cx D [] a.tmps w){dst:Option Nat}{t len:Nat}{f:Array (Nat×Operand)}
  (e:iR mkD (frD w) tab D dst t len f.toList=some D'):∃y w',(Instr.buildSlice t len (f.map fun(i,x)=>(i,a.eval x))).run P w = .ok y w'∧Inv cx D' [] (a.put dst y).tmps w':=by
 unfold iR at e;split at e
 case h_2=>cases e
 rename_i sz Z ze l d x K m;split at e
 case h_2=>cases e
 rename_i c gg us D1 A hx;split at e
 case isFalse=>cases e
 rename_i hc;cases e;obtain⟨rfl,hd,L,M,Q,B,C⟩:=hc;obtain⟨ys,Pd,I1,G,hv⟩:=I.cellsTake hx;have s:=ff (Tab.ok ok K) rfl;obtain⟨z,g1,S,g3⟩:=sY (Tab.ok ok A) w;have hs:=kh (Tab.ok ok A) w;have U:=jD (P:=P) (t:=l) (w:=w) (cx:=cx) (D:=D) (ys:=z.cells.toList) g3;rw[←S]at U;have F:z.cells.size=c.size:=by rw[←M,S];simp[dv]
 have V:=RowsAre.init U.v (by omega) 1;rw[F]at V;have n:=kB G hv;obtain⟨N,R⟩:=V.set (i:=0) (by simp) G.v B;have e2:=G.v.1;have r:(List.replicate 1 (c.zero.map (T.inj nilD))).set 0 us=[us]:=rfl;rw[r]at R;have f1:Instr.fill (fun i=>some (i*c.size,c.size)) ((Array.range (1*c.size)).map fun i=>z.cells[i % c.size]!) [(0,a.eval x)]=some (an ((Array.range (1*c.size)).map fun i=>z.cells[i % c.size]!).toList (0*c.size) ys).toArray:=by simp only[Instr.fill,n];rw[Oh (by simp;omega)];have h3:=ge ys.toArray (0*c.size) ((Array.range (1*c.size)).map fun i=>z.cells[i % c.size]!) (by simpa using N);rw[h3]
 generalize W:an ((Array.range (1*c.size)).map fun i=>z.cells[i % c.size]!).toList (0*c.size) ys=k at *;have H:(Instr.buildSlice t 1 (f.map fun(i,x)=>(i,a.eval x))).run P w = .ok (.slice (some ⟨w.heap.size,0,none⟩) 1 1) (w.alloc (.cells k.toArray l)):=by
  have O:Instr.fill (fun i=>some (i*c.size,c.size)) ((Array.range (1*c.size)).map fun i=>z.cells[i % c.size]!) (f.toList.map fun p=>(p.1,a.eval p.2))=some k.toArray:=by rw[m];exact f1
  simp only[Instr.buildSlice,run_underlying s,Sem.run_bind,Result.andThen_ok,hs];rw[Oh (by omega)];simp[g1,F];have J:=O;rw[Nat.one_mul]at J;simp[J,L,iV]
 have g:=Grew.alloc w (.cells k.toArray l);have o:(w.alloc (.cells k.toArray l)).heap[w.heap.size]?=some (.cells k.toArray l (0,0)):=by show(w.heap.push _)[w.heap.size]?=_;simp
 have q:∀(i:Nat)(row:List DT)(j:Nat)(u:DT),[us][i]?=some row→row[j]?=some u→u∈us:=fun i row j u hi hj=>by
  have:row=us:=by have:=N8 hi;simpa using this
  subst this;exact N8 hj
 have X:∀u∈us,OwnT w u∧ownR u=bl u:=fun u s=>Gg (On.1 C u s) (G.own u s)
 have hH:Holds (w.alloc (.cells k.toArray l)) (.s .own ((frD w).row 1) c.size [us]):=by refine .s _ _ _ _ rfl rfl _ l (0,0) o (by simp[frD]) R.row (fun i row j t hi hj => ?_) (fun i row j t hi hj=>(G.holds t (q i row j t hi hj)).frame fun b _ hb=>g.same b hb);obtain⟨y,y1,y2⟩:=R.val i row j t hi hj;exact⟨y,by simpa[frD]using y1,y2⟩
 have hO:OwnT (w.alloc (.cells k.toArray l)) (.s .own ((frD w).row 1) c.size [us]):=by refine .s _ _ _ rfl rfl _ l 0 0 o (by simp[frD]) (by simp[frD,R.len]) (fun x _ _ h=>by omega) (fun i row j t hi hj => ?_);exact((X t (q i row j t hi hj)).1).frame fun b _ hb=>g.same b hb
 refine⟨_,_,H,I1.newRows (P:=Pd) g (by simp) (d:=(frD w).row 1) ⟨rfl,rfl⟩ hH hO (fun b => ?_) hd (by simp[VT,Dec.addr,frD])⟩;have Y:=G.cnt b;have h2:us.flatMap ownR=us.flatMap bl:=by rw[Qv,Qv,OO fun u s=>(X u s).2]
 rw[h2]at Y;simpa using Y
theorem A7 {P:Program}{tab:Tab}(ok:bm P tab){cx:Cx}{D D':DSt}{a:Act}{w:World}(I:Inv cx D [] a.tmps w){t:Nat}{p:Operand}{z:Nat}
  (e:mz mkD tab D t p z=some D'):∃w',(Instr.storeAt t (a.eval p) (.slice none 0 0)).run P w = .ok () w'∧Inv cx D' [] a.tmps w':=by
 unfold mz at e;split at e
 case h_2=>cases e
 rename_i ti d;split at e
 case isFalse=>cases e
 rename_i f;rw[N6]at e;obtain⟨i,h,e⟩:=e;refine BK (g:=false) ok I d (ys:=[.slice none 0 0]) ⟨.one ?_,fun u c => ?_,fun u c _ => ?_,fun u c => ?_,fun b => ?_⟩ (by simp[bZ]) (by simp[f]) h e
 ·simp[VT,Dec.addr,mkD,nilD]
 ·rw[Oc]at c;subst c;exact .e _ _ _
 ·rw[Oc]at c;subst c;exact .nil _ _ rfl rfl rfl
 ·rw[Oc]at c;subst c;trivial
 ·simp[ownR,T.isOwn,cl,mkD,nilD]
section
variable  {δ β : Type}
def mY (M:Mk δ β)(tab:Tab)(D:St δ β)(dst:Option Nat)(t:Nat)(a:List (Nat×Operand)):Option (St δ β):=
 match tab.ti t,tab.pl t,a,dst with
 |some ti,some pl,(i,x)::r,some d =>
  match pl[i]?,cellsTake M D x with
  |some (off,size),some (_,us,D1)=>
   if us.length=size∧off+us.length≤(ti.zero.map (T.inj M.nil)).length∧d<D1.length then
    (ce M D1 pl r (an (ti.zero.map (T.inj M.nil)) off us)).map fun ts=>aT D1 (some d) (.agg ts)
   else none
  |_,_=>none
 |_,_,_,_=>none
end
theorem Got.spliceP {cx:Cx}{D:DSt}{w:World}{P Q:List (DT×Value)}{ts us:List DT}{xs ys:List Value}(G:Got cx D w P ts xs)(H:Got cx D w Q us ys){off:Nat}(c:off+us.length≤ts.length):
  Got cx D w (P++Q) (an ts off us) (an xs off ys):=by
 refine⟨G.v.splice H.v c,fun t a => ?_,fun t a => ?_,fun t a => ?_,fun b => ?_⟩
 ·rcases fG a with h|h
  ·exact G.holds t h
  ·exact H.holds t h
 ·rcases fG a with h|h
  ·exact G.own t h
  ·exact H.own t h
 ·rcases fG a with h|h
  ·exact G.kind t h
  ·exact H.kind t h
 ·have d:=mZ ownR ts us off b;have e:=G.cnt b;have f:=H.cnt b;rw[gF];omega
theorem iY {cx:Cx}{D:DSt}{h P:List (DT×Value)}{a:Act}{w:World}(I:Inv cx D h a.tmps w)(pl:List (Nat×Nat)):∀(b:List (Nat×Operand)){ts ts':List DT}{xs:List Value},Got cx D w P ts xs →
  ce mkD D pl b ts=some ts'→∃ys,Instr.fill (pl.toArray[·]?) xs.toArray (b.map fun p=>(p.1,a.eval p.2))=some ys.toArray∧Got cx D w P ts' ys
 |[],ts,ts',xs,G,e=>by cases e;exact⟨xs,rfl,G⟩
 |(i,x)::r,ts,ts',xs,G,e=>by
  simp only[ce]at e;split at e
  case h_2=>cases e
  rename_i off size g us j hc;split at e
  case isFalse=>cases e
  rename_i k;obtain⟨ys,H,hv⟩:=I.cellsCopy hc;have c:=kB H hv;have f:=G.spliceP H k.2;rw[OC]at f;obtain⟨l,m,n⟩:=iY I pl r f e;refine⟨l,?_,n⟩;have o:=G.v.1;have q:=H.v.1;have d:pl.toArray[i]?=some (off,size):=by simpa using j
  simp only[Oq,Instr.fill,d,c];rw[Oh (by simp;omega)];rw[ge ys.toArray off xs.toArray (by simp;omega)];simpa using m
theorem Dh {P:Program}{tab:Tab}(ok:bm P tab){cx:Cx}{D D':DSt}{a:Act}{w:World}(I:Inv cx D [] a.tmps w){dst:Option Nat}{t:Nat}{b:Array (Nat×Operand)}(e:mY mkD tab D dst t b.toList=some D'):
  ∃y,(Instr.build t (b.map fun(i,x)=>(i,a.eval x))).run P w = .ok y w∧Inv cx D' [] (a.put dst y).tmps w:=by
 unfold mY at e;split at e
 case h_2=>cases e
 rename_i ti pl i x r d m n c;split at e
 case h_2=>cases e
 rename_i off size S us D1 B C;split at e
 case isFalse=>cases e
 rename_i hc;rw[N9]at e;obtain⟨ts,F,rfl⟩:=e;obtain⟨J,l,hd⟩:=hc;obtain⟨ys,U,q,H,hv⟩:=I.cellsTake C;obtain⟨V,W,z,g1,X,g3,g4,Y,K,Z,L⟩:=fz (Tab.ok ok m);have G:=jD (P:=P) (t:=t) (w:=w) (cx:=cx) (D:=D1) (ys:=z.cells.toList) L;rw[←K]at G;have u:=G.spliceP H l;rw[OE]at u;obtain⟨A,M,N⟩:=iY q pl r u F;have f:=kB H hv;have k:Instr.fill (pl.toArray[·]?) z.cells.toList.toArray (b.toList.map fun p=>(p.1,a.eval p.2))=some A.toArray:=by
  rw[c];have O:z.cells.toList.length=z.cells.size:=by simp
  have Q:(ti.zero.map (T.inj mkD.nil)).length=z.cells.size:=by rw[←O];exact G.v.1
  have e2:=H.v.1;rw[Q]at l;have o:pl.toArray[i]?=some (off,size):=by simpa using B
  simp only[Oq,Instr.fill,o,f];rw[Oh (by simp;omega)];rw[ge ys.toArray off z.cells.toList.toArray (by simp;omega)];simpa using M
 refine⟨.agg A.toArray,run_build w t _ _ ?_,?_⟩
 ·have j:=Tab.okPl ok n;unfold nZ at j;split at j
  ·rename_i fs R;unfold Program.built;rw[g1,R];simp only[g3,j];simpa using k
  ·cases j
 ·exact q.putGot (g:=true) (s := .agg ts) N (by simp[bZ]) rfl (fun t' h=>by cases h;exact hd) rfl
section
variable  {δ β : Type}
def nY (D:St δ β):Operand→Bool
 | .tmp t=>match D[t]? with|some s=>s.isHome|none=>false
 |_=>false
def pS (M:Mk δ β)(tab:Tab)(D:St δ β)(dst:Option Nat)(t:Nat)(a:List (Nat×Operand)):Option (St δ β):=
 match tab.ti t,tab.pl t,a.dropWhile (fun p => !nY D p.2),dst with
 |some ti,some pl,(i,x)::r,some d =>
  match pl[i]?,cellsTake M D x,ce M D pl (a.takeWhile (fun p => !nY D p.2)) (ti.zero.map (T.inj M.nil))with
  |some (off,size),some (_,us,D1),some b =>
   if us.length=size∧off+us.length≤b.length∧d<D1.length∧b.all T.noLent=true then
    (ce M D1 pl r (an b off us)).map fun ts=>aT D1 (some d) (.agg ts)
   else none
  |_,_,_=>none
 |_,_,_,_=>none
def mD (M:Mk δ β)(tab:Tab)(D:St δ β)(dst:Option Nat)(t:Nat)(a:List (Nat×Operand)):Option (St δ β):=
 match mY M tab D dst t a with
 |some r=>some r
 |none=>pS M tab D dst t a
theorem Dg {M:Mk δ β}{tab:Tab}{D r:St δ β}{dst:Option Nat}{t:Nat}{a:List (Nat×Operand)}(h:mY M tab D dst t a=some r):mD M tab D dst t a=some r:=by unfold mD;rw[h]
end
theorem xd {pl:Nat→Option (Nat×Nat)}:∀(b a:List (Nat×Value))(xs ys:Array Value),Instr.fill pl xs b=some ys→Instr.fill pl xs (b++a)=Instr.fill pl ys a
 |[],a,xs,ys,h=>by simp only[Instr.fill]at h;cases h;rfl
 |(i,v)::b,a,xs,ys,h=>by
  rw[Qu];unfold Instr.fill at h
  conv=>lhs;unfold Instr.fill
  cases c:pl i with
  |none=>rw[c]at h;cases h
  |some os =>
   obtain⟨off,size⟩:=os;rw[c]at h;simp only at h ⊢;split at h
   ·cases h
   ·rename_i hc;rw[Oh hc];exact xd b a _ ys h
theorem BT {P:Program}{tab:Tab}(ok:bm P tab){cx:Cx}{D D':DSt}{a:Act}{w:World}(I:Inv cx D [] a.tmps w){dst:Option Nat}{t:Nat}{b:Array (Nat×Operand)}(e:pS mkD tab D dst t b.toList=some D'):
  ∃y,(Instr.build t (b.map fun(i,x)=>(i,a.eval x))).run P w = .ok y w∧Inv cx D' [] (a.put dst y).tmps w:=by
 unfold pS at e;split at e
 case h_2=>cases e
 rename_i ti pl i x r d u A c;split at e
 case h_2=>cases e
 rename_i off size gg us D1 B O Q m;split at e
 case isFalse=>cases e
 rename_i hc;rw[N9]at e;obtain⟨ts,R,rfl⟩:=e;obtain⟨S,n,hd,C⟩:=hc;obtain⟨ys,Pd,K,H,hv⟩:=I.cellsTake Q;obtain⟨i',dd,z,g1,g2,g3,g4,g5,U,g7,V⟩:=fz (Tab.ok ok u);have G:=jD (P:=P) (t:=t) (w:=w) (cx:=cx) (D:=D) (ys:=z.cells.toList) V;rw[←U]at G;obtain⟨o,F,l⟩:=iY I pl _ G m;have W:Got cx D1 w [] B o:=⟨l.v,l.holds,l.own,fun t L=>pV (On.1 C t L) (l.kind t L),l.cnt⟩
 have M:=W.spliceP H n;rw[OE]at M;obtain⟨N,X,Y⟩:=iY K pl r M R;have f:=kB H hv;have q:b.toList=b.toList.takeWhile (fun p => !nY D p.2)++(i,x)::r:=by rw[←c];exact(List.takeWhile_append_dropWhile).symm
 have k:Instr.fill (pl.toArray[·]?) z.cells.toList.toArray (b.toList.map fun p=>(p.1,a.eval p.2))=some N.toArray:=by
  rw[q,Pg,xd _ _ _ _ F];have Z:=l.v.1;have e2:=H.v.1;rw[Z]at n;have J:pl.toArray[i]?=some (off,size):=by simpa using O
  simp only[Oq,Instr.fill,J,f];rw[Oh (by simp;omega)];rw[ge ys.toArray off o.toArray (by simp;omega)];simpa using X
 refine⟨.agg N.toArray,run_build w t _ _ ?_,?_⟩
 ·have j:=Tab.okPl ok A;unfold nZ at j;split at j
  ·rename_i fs hu;unfold Program.built;rw[g1,hu];simp only[g3,j];simpa using k
  ·cases j
 ·exact K.putGot (g:=true) (s := .agg ts) Y (by simp[bZ]) rfl (fun t' h=>by cases h;exact hd) rfl
theorem BU {P:Program}{tab:Tab}(ok:bm P tab){cx:Cx}{D D':DSt}{a:Act}{w:World}(I:Inv cx D [] a.tmps w){dst:Option Nat}{t:Nat}{b:Array (Nat×Operand)}(e:mD mkD tab D dst t b.toList=some D'):
  ∃y,(Instr.build t (b.map fun(i,x)=>(i,a.eval x))).run P w = .ok y w∧Inv cx D' [] (a.put dst y).tmps w:=by
 unfold mD at e;split at e
 ·rename_i r h;cases e;exact Dh ok I h
 ·exact BT ok I e
section
section
variable  {δ β : Type}
def putA (D:St δ β)(t:Nat)(x:Sl δ β):St δ β :=
 match D[t]? with
 |some .any=>D.set t x
 |_=>aT D (some t) x
def dT (D:St δ β)(dst:Option Nat)(x:Sl δ β):Option (St δ β):=
 match dst with
 |none=>some D
 |some t=>if t<D.length then some (putA D t x)else none
def jF (M:Mk δ β)(tab:Tab)(D:St δ β)(t:Nat)(x:Operand):Option (Bool×List (T δ)×St δ β):=
 match tab.ti t,opd M.nil D x with
 |some ti,some (.pb h 0)=>
  match D[h]? with
  |some (.box _ ts)=>if ts.length=ti.size∧ti.sh ≠ .other∧ti.sh.agg=true∧ts.all T.noLent=true then some (true,ts,aU h D)else none
  |_=>none
 |_,_=>none
def qt (tab:Tab)(ty:Nat)(x:Operand):Option Nat :=
 match x with
 | .const (.slice none 0 0)=>match tab.ti ty with|some ⟨_,_,_,.slice e⟩=>(tab.ti e).map (·.size)|_=>none
 |_=>none
def iy (D:St δ β)(x:Operand):Option (List (Bool×List (T δ))):=
 match x with
 | .tmp t=>match D[t]? with|some (.tup rs)=>if(rs.all fun r=>r.2.all T.flat)=true∧rs≠[]then some rs else none|_=>none
 |_=>none
def r8 (c:Call):Option (Nat×Nat×Operand×Operand):=
 match c.callee,c.args.toList,c.argTypes.toList with
 | .builtin .append,[s,x],[t,t2]=>some (t,t2,s,x)
 |_,_,_=>none
def cS (M:Mk δ β)(F:kU δ β)(tab:Tab)(D:St δ β)(o:Oper)(tk:Bool):Option (St δ β):=
 match o.op with
 | .store t p x=>match o.dst with
  |none=>(match qt tab t x with|some z=>mz M tab D t p z|none=>oj M tab D t p x tk)
  |some _=>none
 | .alloc t=>mB M F tab D o.dst t
 | .box _ x=>wE M F D o.dst x tk
 | .move x=>match qt tab o.type x with
  |some z=>dT D o.dst (.one (.s .own M.nil z []))
  |none=>match iy D x with
  |some rs=>dT D o.dst (.tup rs)
  |none=>match(if tk then lA D x o.dst else none)with
  |some D'=>some D'
  |none=>if tk then(cellsTake M D x).bind fun r=>match o.dst with|some t=>if t<r.2.2.length then(gA r.1 r.2.1).map fun s=>aT r.2.2 (some t) s else none|none=>none
   else(bP M tab D o.op).bind fun s=>dT D o.dst s
 | .assign x=>match qt tab o.type x with
  |some z=>dT D o.dst (.one (.s .own M.nil z []))
  |none=>if tk then(cellsTake M D x).bind fun r=>match o.dst with|some t=>if t<r.2.2.length then(gA r.1 r.2.1).map fun s=>aT r.2.2 (some t) s else none|none=>none
   else(bP M tab D o.op).bind fun s=>dT D o.dst s
 | .load t x=>if tk then(jF M tab D t x).bind fun r=>match o.dst with|some t=>if t<r.2.2.length then(gA r.1 r.2.1).map fun s=>aT r.2.2 (some t) s else none|none=>none
   else(bP M tab D o.op).bind fun s=>dT D o.dst s
 | .extract x i=>mI D o.dst x i
 | .makeFunc fn first caps=>match fn with| .func f=>if first.toList=[]then(tj D f caps.toList).bind fun s=>dT D o.dst s else none|_=>none
 | .buildSlice t len a=>if tk then iR M F tab D o.dst t len a.toList else eb M F tab D o.dst t len a.toList
 | .makeSlice t l c=>ee M F tab D o.dst t l c
 | .call c=>match r8 c with
  |some (t,t2,s,x)=>kz M F tab D o.dst t t2 s x
  |none=>(bP M tab D o.op).bind fun s=>dT D o.dst s
 | .convert b dst x=>match kA M tab D b dst x with
  |some rows=>(dz rows).bind fun xs=>dT D o.dst (.one (.v (.string (strOfNums xs))))
  |none=>match fK M F tab D o.dst b dst x with
  |some D'=>some D'
  |none=>(bP M tab D o.op).bind fun s=>dT D o.dst s
 | .build t a=>if tk then mD M tab D o.dst t a.toList else(nM M tab D t a.toList).bind fun s=>dT D o.dst s
 |op=>(bP M tab D op).bind fun s=>dT D o.dst s
end
theorem Inv.any_refs {cx:Cx}{D:DSt}{P:List (DT×Value)}{tm:Array Value}{w:World}(I:Inv cx D P tm w){t:Nat}(x:D[t]?=some .any){s:DSl}{y:Value}(hv:VS D s y)(q:dV cx D s):¬ct t s:=by
 have hc:∀c,aq D t c=none:=fun c=>by simp[aq,x,aS]
 have j:∀(us:List DT),(∀u∈us,bz cx D u)→¬ ∃u∈us,∃c o d z r,u = .s (.lent t c o) d z r:=by rintro us h ⟨u,v,c,o,d,z,r,rfl⟩;obtain⟨t',m,_⟩:=h _ v;rw[hc]at m;cases m
 intro l;cases s with
 |any=>exact l
 |one u=>obtain⟨c,o,d,z,r,rfl⟩:=l;exact j [_] (fun u v=>q u (by simpa[aj]using v)) ⟨_,OK _,c,o,d,z,r,rfl⟩
 |agg ts=>exact j ts q l
 |box b ts=>exact j ts q l
 |al h c st lo len =>simp only[ct]at l;subst l;obtain⟨d,z,n,a,⟨t',m,_⟩,_⟩:=hv;rw[hc]at m;cases m
 |pe h c st i off =>simp only[ct]at l;subst l;obtain⟨d,z,n,⟨t',m,_⟩,_⟩:=hv;rw[hc]at m;cases m
 |pb h off =>simp only[ct]at l;subst l;obtain⟨b,ts,m,_⟩:=hv;rw[x]at m;cases m
 |im k b ts off =>
  cases k with
  |own=>exact l
  |far=>exact l
  |lent h c o =>simp only[ct]at l;subst l;obtain⟨t',m,_⟩:=q;rw[hc]at m;cases m
 |fni f caps=>exact l
 |clo f hs =>
  obtain⟨B,m,C,_⟩:=hv;obtain⟨i,hi⟩:=Og l;obtain⟨b,hb⟩:∃b,B[i]?=some b:=by
   have:i<hs.length:=by
    rcases Od i hs.length with g|g
    ·exact g
    ·rw[Ob g]at hi;cases hi
   exact⟨_,Oa (by omega)⟩
  obtain⟨ts,A⟩:=C i t b hi hb;rw[x]at A;cases A
 |tup rs =>obtain⟨p,F,u,v,c,o,d,z,r,e⟩:=l;exact j (aj (.tup rs)) q ⟨u,Oj.2 ⟨p,F,v⟩,c,o,d,z,r,e⟩
theorem Inv.putA {cx:Cx}{D:DSt}{a:Act}{w:World}(I:Inv cx D [] a.tmps w){t:Nat}{s:DSl}{y:Value}(f:t<D.length)(h:Tells cx D w s y):Inv cx (putA D t s) [] (a.put (some t) y).tmps w:=by
 have c:∀b,(ownBl s).count b≤aO [] b:=by intro b;have:ownBl s=[]:=h.noown;rw[this];simp[aO]
 unfold Am.putA;split
 ·rename_i e;exact Inv.fill (P:=[]) (Q:=[]) (by simpa using I) e (fun s' d=>by obtain⟨u,g⟩:=Og d;exact I.any_refs e (I.val u s' g) (I.kind s' d)) (I.any_refs e h.val h.kind) h.val h.mem h.kind c
 ·exact Inv.put (P:=[]) (Q:=[]) (by simpa using I) f h.val h.mem h.kind c
variable  {P : Program}{tab : Tab}
inductive yn (cx:Cx)(D':DSt)(a:Act)(o:Oper)(w':World):Next→Prop where|value (y:Value) (h:Inv cx D' [] (a.put o.dst y).tmps w'):yn cx D' a o w' (.value y)|skip (hd:o.dst=none) (h:Inv cx D' [] a.tmps w'):yn cx D' a o w' .skip
theorem kY (ok:bm P tab){cx:Cx}{D D':DSt}{a:Act}{w:World}(I:Inv cx D [] a.tmps w){o:Oper}(e:((bP mkD tab D o.op).bind fun s=>dT D o.dst s)=some D'):
  ∃c w',(execOp a.eval o).run P w = .ok c w'∧yn cx D' a o w' c:=by
 rw[N6]at e;obtain⟨s,d,b⟩:=e;obtain⟨y,f,g⟩:=ot ok I d;refine⟨_,w,f,.value y ?_⟩;unfold dT at b;split at b
 ·rename_i hd;cases b;rw[hd];exact I
 ·rename_i t hd;split at b
  ·cases b;rw[hd];exact I.putA ‹_› g
  ·cases b
theorem oa {cx:Cx}{D D':DSt}{a:Act}{w:World}(I:Inv cx D [] a.tmps w){o:Oper}{s:DSl}{y:Value}(c:Tells cx D w s y)(b:dT D o.dst s=some D'):yn cx D' a o w (.value y):=by
 refine .value y ?_;unfold dT at b;split at b
 ·rename_i hd;cases b;rw[hd];exact I
 ·rename_i t hd;split at b
  ·cases b;rw[hd];exact I.putA ‹_› c
  ·cases b
theorem BL {cx:Cx}{D D':DSt}{a:Act}{w:World}(I:Inv cx D [] a.tmps w){x:Operand}{dst:Option Nat}
  (e:((cellsTake mkD D x).bind fun r=>match dst with|some t=>if t<r.2.2.length then(gA r.1 r.2.1).map fun s=>aT r.2.2 (some t) s else none|none=>none)=some D'):
  Inv cx D' [] (a.put dst (a.eval x)).tmps w:=by
 rw[N6]at e;obtain⟨⟨g,us,D1⟩,c,b⟩:=e;obtain⟨ys,i,d,G,hv⟩:=I.cellsTake c;simp only at b;split at b
 ·rename_i t;split at b
  ·rename_i f;rw[N9]at b;obtain⟨s,hs,rfl⟩:=b;exact d.putGot G hv hs (fun t' h=>by cases h;exact f) rfl
  ·cases b
 ·cases b
theorem Cf (ok:bm P tab){cx:Cx}{D D':DSt}{a:Act}{w:World}(I:Inv cx D [] a.tmps w){o:Oper}{t:Nat}{x:Operand}(C:o.op = .load t x)
  (e:((jF mkD tab D t x).bind fun r=>match o.dst with|some t=>if t<r.2.2.length then(gA r.1 r.2.1).map fun s=>aT r.2.2 (some t) s else none|none=>none)=some D'):
  ∃y,(execOp a.eval o).run P w = .ok (.value y) w∧Inv cx D' [] (a.put o.dst y).tmps w:=by
 rw[N6]at e;obtain⟨⟨g,us,D1⟩,l,n⟩:=e;unfold jF at l;split at l
 case h_2=>cases l
 rename_i ti h F M;split at l
 case h_2=>cases l
 rename_i b ts hh;split at l
 case isFalse=>cases l
 rename_i hc;cases l;obtain⟨N,O,Q,q⟩:=hc;have R:bP mkD tab D o.op=some (.agg (us.mapIdx fun j u=>u.kd (.lent h (0+j) true))):=by
  rw[C];have H:opd mkD.nil D x=some (.pb h 0):=M;simp only[bP,H,F];rw[Oh O];simp only[iI,boxRange,hh];rw[N5 (by omega),N4,N5 Q];have:(us.drop 0).take ti.size=us:=by rw[OR, ←N,OX]
  rw[this]
 obtain⟨y,S,U⟩:=ot ok I R;refine⟨y,S,?_⟩;obtain⟨cs,V,m⟩:=U.val;have f:VCells us cs.toList:=by refine⟨by simpa using m.1,fun i u v hi hv => ?_⟩;have:=m.2 i (u.kd (.lent h (0+i) true)) v (by rw[PT,hi];rfl) hv;exact Ht.1 this
 have L:=I.mem _ (N8 hh);have W:=I.kind _ (N8 hh);have A:∀v∈us,∀h c B d z r,v ≠ .s (.lent h c B) d z r:=by intro v hv h c B d z r g;have:=On.1 q v hv;rw[g]at this;simp[T.noLent]at this
 have X:=Inv.take I (cs:=us.zip cs.toList) hh (fun p J=>by obtain⟨i,hi⟩:=Og J;rw[P9]at hi;exact⟨N8 hi.1,N8 hi.1,f.2 i _ _ hi.1 hi.2⟩)
  (fun p J=>A p.1 (List.of_mem_zip J).1) (fun c=>by rw[mm _ _ f.1];simp only[ownBl];rw[Pf];omega) (by simp) (by simp)
 have G:Got cx (aU h D) w (us.zip cs.toList++[]) us cs.toList:=by
  refine⟨f,L.1,L.2.1,fun v hv => ?_,fun c => ?_⟩
  ·have K:=W v hv;have:=A v hv;cases v with
   |v x=>trivial
   |any=>trivial
   |s k d z r =>
    cases k with
    |own=>trivial
    |far=>exact K
    |lent h c B=>exact absurd rfl (this h c B d z r)
  ·rw[OC,mm _ _ f.1];exact OP _
 simp only at n;split at n
 ·rename_i t' hd;split at n
  ·rename_i Y;rw[N9]at n;obtain⟨s,hs,rfl⟩:=n;have:=Inv.putGot (dst:=some t') X G (by simp only[bZ,OH];exact V) hs (fun Z h=>by cases h;exact Y) rfl;rw[hd];exact this
  ·cases n
 ·cases n
theorem Jb {cx:Cx}{D:DSt}{a:Act}{w:World}(I:Inv cx D [] a.tmps w){f:FuncId}{caps:Array Operand}{s:DSl}(e:tj D f caps.toList=some s):Tells cx D w s (.func (.func f) #[] (caps.map a.eval)):=by
 unfold tj at e;rw[N9]at e;obtain⟨hs,r,rfl⟩:=e;have l:∀(xs:List Operand){hs:List Nat},ml D xs=some hs →
   ∃d:List (Nat×Nat),d.length=hs.length∧(∀(i h:Nat)(b:Nat×Nat),hs[i]?=some h→d[i]?=some b→∃ts,D[h]?=some (.box b ts))∧xs.map a.eval=d.map fun b=>Value.pointer (some ⟨b.1,b.2,none⟩):=by
  intro xs;induction xs with
  |nil=>intro hs h;cases h;exact⟨[],rfl,fun i h b hi=>by simp at hi,rfl⟩
  |cons x xs v =>
   intro hs h;simp only[ml,N6,N9]at h;obtain⟨y,g,z,A,rfl⟩:=h;obtain⟨d,m,n,o⟩:=v A;have j:∃(b:Nat×Nat) (ts:List DT),D[y]?=some (.box b ts)∧a.eval x = .pointer (some ⟨b.1,b.2,none⟩):=by
    unfold jY at g;split at g
    ·rename_i t;split at g
     ·rename_i b ts hb;cases g;exact⟨b,ts,hb,I.val _ _ hb⟩
     ·rename_i B hb;cases g;obtain⟨b,ts,p,q⟩:=I.val _ _ hb;exact⟨b,ts,p,q⟩
     ·cases g
    ·cases g
   obtain⟨b,ts,p,q⟩:=j;refine⟨b::d,by simp[m],fun i h c hi hc => ?_,by simp[o,q]⟩;cases i with
   |zero=>simp at hi hc;subst hi;subst hc;exact⟨ts,p⟩
   |succ i=>simp at hi hc;exact n i h c hi hc
 obtain⟨d,m,n,o⟩:=l _ r;refine⟨⟨d,m,n,?_⟩,⟨fun u k=>by simp[aj]at k,fun u k=>by simp[rootsO]at k,trivial⟩,fun u k=>by simp[aj]at k,rfl⟩;congr 1;rw[←PF];simpa using o
theorem C8 {c:Call}{t t2:Nat}{s x:Operand}(h:r8 c=some (t,t2,s,x)):c.callee = .builtin .append∧c.args = #[s,x]∧c.argTypes = #[t,t2]:=by
 unfold r8 at h;split at h
 ·rename_i a b d;cases h;exact⟨a,by rw[←PF];exact b,by rw[←PF];exact d⟩
 ·cases h
theorem BM {cx:Cx}{D:DSt}{a:Act}{w:World}(I:Inv cx D [] a.tmps w){x:Operand}{rs:List (Bool×List DT)}(h:iy D x=some rs):Tells cx D w (.tup rs) (a.eval x):=by
 unfold iy at h;split at h
 ·rename_i t;split at h
  ·rename_i rs' hr;split at h
   ·rename_i hf;cases h;have c:=N8 hr;refine⟨I.val t _ hr,I.mem _ c,I.kind _ c,?_⟩;simp only[ownBl,Ox];intro r b u e;have:=On.1 (On.1 hf.1 r b) u e;cases u with
    |v x=>rfl
    |any=>rfl
    |s k d z q=>cases this
   ·cases h
  ·cases h
 ·cases h
theorem Bv {cx:Cx}{D:DSt}{w:World}(z:Nat):Tells cx D w (.one (.s .own nilD z [])) (.slice none 0 0):=by
 refine⟨rfl,⟨fun u a => ?_,fun u a _ => ?_,trivial⟩,fun u a => ?_,?_⟩
 ·simp only[aj,Oc]at a;subst a;exact .e _ _ _
 ·simp only[rootsO,Oc]at a;subst a;exact .nil _ _ rfl rfl rfl
 ·simp only[aj,Oc]at a;subst a;trivial
 ·simp[ownBl,ownR,T.isOwn,cl,nilD]
theorem zC (ok:bm P tab){cx:Cx}{D D':DSt}{a:Act}{w:World}(I:Inv cx D [] a.tmps w){o:Oper}{tk:Bool}(e:cS mkD (frD w) tab D o tk=some D'):
  ∃r w',(execOp a.eval o).run P w = .ok r w'∧yn cx D' a o w' r:=by
 unfold cS at e;split at e
 ·rename_i t p x b;split at e
  ·rename_i hd;split at e
   ·rename_i z hz;have k:a.eval x = .slice none 0 0:=by
     unfold qt at hz;split at hz
     ·rfl
     ·cases hz
    obtain⟨w',d,g⟩:=A7 ok I e;rw[←k]at d;exact⟨.skip,w',by simp[execOp,b,d],.skip hd g⟩
   ·obtain⟨w',d,g⟩:=GH ok I e;exact⟨.skip,w',by simp[execOp,b,d],.skip hd g⟩
  ·cases e
 ·rename_i t b;obtain⟨y,w',d,g⟩:=wY ok I e;exact⟨.value y,w',by simp[execOp,b,d],.value y g⟩
 ·rename_i t x b;obtain⟨y,w',d,g⟩:=Ja (P:=P) (t:=t) I e;exact⟨.value y,w',by simp[execOp,b,d],.value y g⟩
 ·rename_i x b;split at e
  ·rename_i z hz;have k:a.eval x = .slice none 0 0:=by
    unfold qt at hz;split at hz
    ·rfl
    ·cases hz
   exact⟨.value (a.eval x),w,by simp[execOp,b],oa I (k ▸ Bv z) e⟩
  ·split at e
   ·rename_i rs u;exact⟨.value (a.eval x),w,by simp[execOp,b],oa I (BM I u) e⟩
   ·split at e
    ·rename_i v hs;cases e;split at hs
     ·exact⟨.value (a.eval x),w,by simp[execOp,b],.value _ (CN I hs)⟩
     ·cases hs
    split at e
    ·exact⟨.value (a.eval x),w,by simp[execOp,b],.value _ (BL I e)⟩
    ·exact kY ok I e
 ·rename_i x b;split at e
  ·rename_i z hz;have k:a.eval x = .slice none 0 0:=by
    unfold qt at hz;split at hz
    ·rfl
    ·cases hz
   exact⟨.value (a.eval x),w,by simp[execOp,b],oa I (k ▸ Bv z) e⟩
  ·split at e
   ·exact⟨.value (a.eval x),w,by simp[execOp,b],.value _ (BL I e)⟩
   ·exact kY ok I e
 ·rename_i t x b;split at e
  ·obtain⟨y,d,g⟩:=Cf ok I b e;exact⟨.value y,w,d,.value _ g⟩
  ·exact kY ok I e
 ·rename_i x i b;obtain⟨y,d,g⟩:=BW (P:=P) I e;exact⟨.value y,w,by simp[execOp,b,d],.value y g⟩
 ·rename_i fn first caps b
  split at e
  case h_2=>cases e
  rename_i f;split at e
  case isFalse=>cases e
  rename_i h;rw[N6]at e;obtain⟨s,d,g⟩:=e;have hf:first = #[]:=by rw[←PF];exact h
  subst hf;exact⟨.value _,w,by simp[execOp,b,Instr.makeFunc],oa I (Jb I d) g⟩
 ·rename_i t len j b;split at e
  ·obtain⟨y,w',d,g⟩:=wO ok I e;exact⟨.value y,w',by simp[execOp,b,d],.value y g⟩
  ·obtain⟨y,w',d,g⟩:=xL ok I e;exact⟨.value y,w',by simp[execOp,b,d],.value y g⟩
 ·rename_i t l c b;obtain⟨y,w',d,g⟩:=zf ok I e;exact⟨.value y,w',by simp[execOp,b,d],.value y g⟩
 ·rename_i c b;split at e
  ·rename_i t t2 s x n;obtain⟨q1,A,B⟩:=C8 n;obtain⟨y,w',d,g⟩:=Da (ty:=o.type) ok I e;refine⟨.value y,w',?_,.value y g⟩;simp[execOp,b,resolve,invoke,builtin,q1,A,B,d]
  ·exact kY ok I e
 ·rename_i C dst x b;split at e
  ·rename_i rows hb;rw[N6]at e;obtain⟨xs,d,g⟩:=e;have m:=zV ok I hb d;exact⟨.value _,w,by simp[execOp,b,m],oa I (.one_v _ rfl) g⟩
  ·split at e
   ·rename_i v hs;cases e;obtain⟨y,w',d,g⟩:=A8 ok I hs;exact⟨.value y,w',by simp[execOp,b,d],.value y g⟩
   ·exact kY ok I e
 ·rename_i t j b;split at e
  ·obtain⟨y,m,q⟩:=BU ok I e;exact⟨.value y,w,by simp[execOp,b,m],.value y q⟩
  ·rw[N6]at e;obtain⟨s,d,g⟩:=e;obtain⟨y,m,q⟩:=Fv ok I d;exact⟨.value y,w,by simp[execOp,b,m],oa I q g⟩
 ·exact kY ok I e
end
mutual
def T.er:DT→T Unit| .v x => .v x| .any => .any| .s k _ z rows => .s k () z (vi rows)
def yF:List DT→List (T Unit)|[]=>[]|t::r=>t.er::yF r
def vi:List (List DT)→List (List (T Unit))|[]=>[]|r::rs=>yF r::vi rs
end
abbrev erL:List DT→List (T Unit):=List.map T.er
theorem KQ (r:List DT):yF r=erL r:=by
 induction r with
 |nil=>simp[yF]
 |cons t r a=>simp[yF,a]
theorem Bj (r:List (List DT)):vi r=r.map erL:=by
 induction r with
 |nil=>simp[vi]
 |cons t r a=>simp[vi,a,KQ]
theorem aB (k:Kd)(d:Dec)(z:Nat)(rows:List (List DT)):(T.s k d z rows:DT).er = .s k () z (rows.map erL):=by rw[T.er,Bj]
theorem dx (x:Value):(T.v x:DT).er = .v x:=rfl
theorem sg:(T.any:DT).er = .any:=rfl
def Sl.er:DSl→Sl Unit Unit| .any => .any| .one t => .one t.er| .agg ts => .agg (erL ts)| .box _ ts => .box () (erL ts)| .al h c st lo len => .al h c st lo len| .pb h off => .pb h off| .pe h c st i off => .pe h c st i off| .im k _ ts off => .im k () (erL ts) off| .fni f caps => .fni f (caps.map fun p=>((),erL p.2))| .clo f hs => .clo f hs| .tup rs => .tup (rs.map fun r=>(r.1,erL r.2))
def erD (D:DSt):St Unit Unit:=D.map Sl.er
theorem Lx (k:Kd)(t:DT):(t.kd k).er=t.er.kd k:=by
 cases t with
 |s k' d z r=>cases k'<;>simp[T.kd,aB]
 |_=>rfl
theorem GX (k:Kd)(t:DT):(t.view k).er=t.er.view k:=by
 cases t with
 |s k' d z r=>simp[T.view,aB]
 |_=>rfl
theorem cR (t:DT):t.er.isOwn=t.isOwn:=by
 cases t with
 |s k' d z r=>cases k'<;>simp[T.isOwn,aB]
 |_=>rfl
theorem nO (t:DT):t.er.fine=t.fine:=by
 cases t with
 |s k' d z r=>cases k'<;>simp[T.fine,aB]
 |_=>rfl
theorem sj (t:DT):t.er.flat=t.flat:=by
 cases t with
 |s k' d z r=>simp[T.flat,aB]
 |_=>rfl
theorem ju (t:DT):t.er.noLent=t.noLent:=by
 cases t with
 |s k' d z r=>cases k'<;>simp[T.noLent,aB]
 |_=>rfl
theorem er_dead (p:Nat→Nat→Bool)(t:DT):(t.dead p).er=t.er.dead p:=by
 cases t with
 |s k' d z r =>
  cases k' with
  |lent h c a=>simp only[T.dead,aB];split<;>simp[aB,sg]
  |_=>simp[T.dead,aB]
 |_=>rfl
theorem tu (p:Nat→Nat→Bool)(ts:List DT):erL (ts.map (T.dead p))=(erL ts).map (T.dead p):=by simp only[erL,OQ];exact OO fun t _=>er_dead p t
theorem qc (k:Kd)(ts:List DT):erL (ts.map (T.view k))=(erL ts).map (T.view k):=by simp only[erL,OQ];exact OO fun t _=>GX k t
theorem Sl.er_dead (p:Nat→Nat→Bool)(q:Nat→Nat→Bool→Bool)(s:DSl):(s.dead p q).er=s.er.dead p q:=by
 cases s with
 |one t=>simp[Sl.dead,Sl.er,Am.er_dead]
 |agg ts=>simp only[Sl.dead,Sl.er,tu]
 |box b ts=>simp only[Sl.dead,Sl.er,tu]
 |al h c st lo len=>by_cases e:q h c (!st.isEmpty)=true<;>simp[e,Sl.dead,Sl.er]
 |pe h c st lo len=>by_cases e:q h c (!st.isEmpty)=true<;>simp[e,Sl.dead,Sl.er]
 |im k b ts off =>
  cases k with
  |lent h c a=>by_cases e:p h c=true<;>simp[e,Sl.dead,Sl.er]
  |_=>simp[Sl.dead,Sl.er]
 |tup rs=>simp only[Sl.dead,Sl.er,OQ];congr 1;exact OO fun r _=>by simp only[Function.comp,tu]
 |_=>rfl
theorem Sl.er_gone (t:Nat)(s:DSl):(s.gone t).er=s.er.gone t:=by
 cases s with
 |pb h off=>by_cases e:h=t<;>simp[e,Sl.gone,Sl.er]
 |clo f hs=>by_cases e:t∈hs<;>simp[e,Sl.gone,Sl.er]
 |_=>rfl
theorem kC (p:Nat→Nat→Bool)(q:Nat→Nat→Bool→Bool)(D:DSt):erD (St.dead p q D)=St.dead p q (erD D):=by simp only[St.dead,erD,OQ];exact OO fun s _=>Sl.er_dead p q s
theorem eG (D:DSt):(erD D).length=D.length:=by simp[erD]
theorem bW (D:DSt)(t:Nat):(erD D)[t]?=(D[t]?).map Sl.er:=by simp[erD]
theorem fM (D:DSt)(t:Nat)(s:DSl):erD (D.set t s)=(erD D).set t s.er:=by simp[erD,Qc]
theorem iC (t:Nat)(D:DSt):erD (aU t D)=aU t (erD D):=by unfold aU;rw[fM, ←kC];congr 1;simp only[erD,OQ];exact OO fun s _=>Sl.er_gone t s
theorem KT (t:Nat)(s:DSl):(s.clean t).er=s.er.clean t:=by unfold Sl.clean;rw[Sl.er_gone,Sl.er_dead]
theorem ca (D:DSt)(dst:Option Nat)(s:DSl):erD (aT D dst s)=aT (erD D) dst s.er:=by
 cases dst with
 |none=>rfl
 |some t=>simp only[aT];rw[fM,iC,KT]
theorem wF (D:DSt)(t:Nat)(s:DSl):erD (putA D t s)=putA (erD D) t s.er:=by
 unfold putA;rw[bW];cases h:D[t]? with
 |none=>exact ca D (some t) s
 |some x=>cases x<;>first|exact fM D t s|exact ca D (some t) s
theorem mG (D:DSt)(dst:Option Nat)(s:DSl):dT (erD D) dst s.er=(dT D dst s).map erD:=by
 cases dst with
 |none=>rfl
 |some t=>simp only[dT,eG];split<;>simp[wF]
theorem vl (s:DSl):aS s.er=(aS s).map erL:=by cases s<;>simp[aS,Sl.er]
theorem FI (cs:List DT)(s:DSl):(setCells cs s).er=setCells (erL cs) s.er:=by
 cases s with
 |one t=>cases cs<;>simp[setCells,Sl.er,sg]
 |_=>simp[setCells,Sl.er]
theorem jt (D:DSt)(h c:Nat):aq (erD D) h c=(aq D h c).map T.er:=by
 unfold aq;rw[bW];cases D[h]? with
 |none=>rfl
 |some s =>
  simp only[N7,N4,vl];cases aS s with
  |none=>rfl
  |some cs=>simp
theorem DA (D:DSt)(h c:Nat)(t:DT):fw (erD D) h c t.er=(fw D h c t).map erD:=by
 unfold fw;rw[bW];cases D[h]? with
 |none=>rfl
 |some s =>
  simp only[N7,vl];cases aS s with
  |none=>rfl
  |some cs =>simp only[N7,fM,FI];simp[Qc]
theorem sk:∀(st:List (Nat×Nat))(t:DT),getN t.er st=(getN t st).map T.er
 |[],t=>by simp[getN]
 |(i,c)::st,t=>by
  cases t with
  |v x=>rfl
  |any=>rfl
  |s k d z rows =>
   simp only[aB,getN,Ok];cases rows[i]? with
   |none=>rfl
   |some row =>
    simp only[N7,N4,Ok];cases row[c]? with
    |none=>rfl
    |some u=>simp only[N7,N4];exact sk st u
theorem GW {f:DT→Option DT}{f':T Unit→Option (T Unit)}(hf:∀t,f' t.er=(f t).map T.er):∀(st:List (Nat×Nat))(t:DT),fg f' t.er st=(fg f t st).map T.er
 |[],t=>by simp only[fg];exact hf t
 |(i,c)::st,t=>by
  cases t with
  |v x=>rfl
  |any=>rfl
  |s k d z rows =>
   simp only[aB,fg,Ok];cases rows[i]? with
   |none=>rfl
   |some row =>
    simp only[N7,N4,Ok];cases row[c]? with
    |none=>rfl
    |some u =>
     simp only[N7,N4];rw[GW hf st u];cases fg f u st with
     |none=>rfl
     |some u'=>simp[aB,Qc]
theorem oJ (D:DSt)(h c:Nat)(st:List (Nat×Nat)):cA (erD D) h c st=(cA D h c st).map T.er:=by
 unfold cA;rw[jt];cases aq D h c with
 |none=>rfl
 |some t=>simp only[N7,N4];exact sk st t
theorem nP {f:DT→Option DT}{f':T Unit→Option (T Unit)}(hf:∀t,f' t.er=(f t).map T.er)(D:DSt)(h c:Nat)(st:List (Nat×Nat)):
  c8 f' (erD D) h c st=(c8 f D h c st).map erD:=by
 unfold c8;rw[jt];cases aq D h c with
 |none=>rfl
 |some t =>
  simp only[N7,N4];rw[GW hf];cases fg f t st with
  |none=>rfl
  |some t'=>simp only[N7,N4];exact DA D h c t'
theorem Jn (D:DSt)(t:Nat):qa (erD D) t=(qa D t).map Sl.er:=by
 unfold qa;rw[bW];cases D[t]? with
 |none=>rfl
 |some s =>
  cases s with
  |one u =>
   cases u with
   |s k d z rows=>cases k<;>simp[Sl.er,aB]
   |_=>rfl
  |agg ts =>
   simp only[N7,Sl.er,OJ,Sl.agg.injEq];apply Px;intro i;simp only[PT,Ok,O6];cases ts[i]? with
   |none=>rfl
   |some u=>simp[Lx]
  |_=>rfl
theorem Js (D:DSt)(x:Operand):opd () (erD D) x=(opd nilD D x).map Sl.er:=by
 cases x with
 |tmp t=>exact Jn D t
 |const v =>
  simp only[opd];unfold zX;split
  ·simp[Sl.er,aB]
  ·rfl
  ·split<;>simp[Sl.er,dx]
 |func f=>simp[opd,Sl.er]
 |global g=>rfl
theorem cg (D:DSt)(x:Operand):opd mkU.nil (erD D) x=(opd mkD.nil D x).map Sl.er:=Js D x
theorem FB (D:DSt)(h o n:Nat):boxRange (erD D) h o n=(boxRange D h o n).map erL:=by
 unfold boxRange;rw[bW];cases D[h]? with
 |none=>rfl
 |some s =>
  cases s with
  |box b ts=>simp only[N7,Sl.er,OF];split<;>simp[P5,P6]
  |_=>rfl
theorem FH (D:DSt)(h c:Nat)(st:List (Nat×Nat))(i o n:Nat):rowRange (erD D) h c st i o n=(rowRange D h c st i o n).map erL:=by
 unfold rowRange;rw[jt];cases aq D h c with
 |none=>rfl
 |some t =>
  simp only[N7,cR];split
  ·rw[sk];cases getN t st with
   |none=>rfl
   |some u =>
    cases u with
    |s k d z rows =>
     simp only[N7,aB,Ok];cases rows[i]? with
     |none=>rfl
     |some row=>simp only[N7,N4,OF];split<;>simp[P5,P6]
    |_=>rfl
  ·rfl
theorem Jq (D:DSt)(ti:TI)(s:DSl):iI (erD D) ti s.er=(iI D ti s).map Sl.er:=by
 cases s with
 |pb h o =>
  simp only[Sl.er,iI,FB];cases boxRange D h o ti.size with
  |none=>rfl
  |some cs =>
   simp only[N7,N4];split
   ·simp only[N7,Sl.er,OJ,Sl.agg.injEq];apply Px;intro i;simp only[PT,Ok,O6];cases cs[i]? with
    |none=>rfl
    |some u=>simp[Lx]
   ·match cs with
    |[]=>rfl
    |[u]=>
     cases u with
     |s k d z rows=>cases k<;>simp[erL,aB,Sl.er]
     |_=>rfl
    |u::v::r=>simp[erL]
 |pe h c st i o =>
  simp only[Sl.er,iI,FH];cases rowRange D h c st i o ti.size with
  |none=>rfl
  |some cs =>
   simp only[N7,N4];split
   ·simp only[N7,Sl.er,qc]
   ·match cs with
    |[]=>rfl
    |[u]=>
     cases u with
     |s k d z rows=>cases k<;>simp[erL,aB,Sl.er,T.view]
     |_=>rfl
    |u::v::r=>simp[erL]
 |im k b ts o =>
  simp only[Sl.er,iI,OF];split
  ·split
   ·simp only[N7,Sl.er,qc,erL,P5,P6]
   ·simp only[erL, ←P6, ←P5]
    match(ts.drop o).take ti.size with
    |[]=>rfl
    |[u]=>simp[Sl.er,GX]
    |u::v::r=>rfl
  ·rfl
 |_=>rfl
theorem Dw (D:DSt)(h c:Nat)(st:List (Nat×Nat)):nq (erD D) h c st=nq D h c st:=by
 unfold nq;rw[oJ];cases cA D h c st with
 |none=>rfl
 |some t =>
  cases t with
  |s k d z rows=>simp[aB]
  |_=>rfl
theorem HO (D:DSt)(tab:Tab)(t:Nat)(x:DSl)(lo hi:Option Int):kf mkU (erD D) tab t x.er lo hi=(kf mkD D tab t x lo hi).map Sl.er:=by
 cases x with
 |one u =>
  cases u with
  |v y =>
   cases y<;>simp only[Sl.er,dx,kf]<;>first|rfl|skip
   split
   ·split<;>simp[Sl.er,dx]
   ·rfl
  |any=>rfl
  |s k d z rows =>
   simp only[Sl.er,aB,kf,OF];split
   ·rfl
   ·split
    ·split
     ·split
      ·simp[Sl.er,aB,mkU]
      ·rfl
     ·rfl
    ·rfl
 |al h c st l len =>
  simp only[Sl.er,kf,Dw];split
  ·split
   ·split<;>simp[Sl.er]
   ·rfl
  ·rfl
 |_=>rfl
theorem z7 (D:DSt)(tab:Tab)(t:Nat)(x:DSl)(i:Int):gI mkU (erD D) tab t x.er i=(gI mkD D tab t x i).map Sl.er:=by
 unfold gI;split
 ·cases x with
  |one u =>
   cases u with
   |v y=>rfl
   |any=>rfl
   |s k d z rows =>
    simp only[Sl.er,aB,Ok];split
    ·rfl
    ·split
     ·split
      ·cases rows[i.toNat]? with
       |none=>rfl
       |some row=>simp[Sl.er]
      ·rfl
     ·rfl
  |al h c st lo len =>
   simp only[Sl.er,Dw];split
   ·split<;>simp[Sl.er]
   ·rfl
  |_=>rfl
 ·rfl
theorem z6 (tab:Tab)(t:Nat)(x:DSl)(f:Nat):j6 tab t x.er f=(j6 tab t x f).map Sl.er:=by
 unfold j6;split
 ·rename_i offs _;cases offs[f]? with
  |none=>rfl
  |some o=>cases x<;>rfl
 ·rfl
theorem KY (tab:Tab)(t:Nat)(x:DSl):tU tab t x.er=tU tab t x:=by
 unfold tU;split
 ·cases x with
  |one u =>
   cases u with
   |s k d z rows=>simp[Sl.er,aB]
   |_=>rfl
  |_=>rfl
 ·cases x with
  |one u =>
   cases u with
   |s k d z rows=>simp[Sl.er,aB]
   |v y=>cases y<;>rfl
   |any=>rfl
  |_=>rfl
 ·rfl
theorem K0 (x:DSl):zn x.er=zn x:=by cases x<;>rfl
theorem Jt (D:DSt)(x:Option Operand):ia () (erD D) x=ia nilD D x:=by
 cases x with
 |none=>rfl
 |some x =>
  simp only[ia,Js];cases opd nilD D x with
  |none=>rfl
  |some s =>
   cases s with
   |one u =>
    cases u with
    |s k d z rows=>simp[Sl.er,aB]
    |v y=>cases y<;>rfl
    |any=>rfl
   |_=>rfl
theorem HJ (D:DSt)(x:Option Operand):ia mkU.nil (erD D) x=ia mkD.nil D x:=Jt D x
theorem KV (tab:Tab)(D:DSt)(c:Call):yM mkU tab (erD D) c=(yM mkD tab D c).map Sl.er:=by
 unfold yM;split
 ·rename_i x t _ _ _;rw[cg];cases opd mkD.nil D x with
  |none=>rfl
  |some s =>
   simp only[N7,N4,KY];cases tU tab t s with
   |none=>rfl
   |some n=>rfl
 ·rename_i x y _ _;simp only[cg];cases g:opd mkD.nil D x with
  |none=>rfl
  |some e =>
   cases h:opd mkD.nil D y with
   |none=>cases e with
    |one u=>cases u with
     |s k d z rows=>simp[Sl.er,aB]
     |v a=>cases a<;>rfl
     |any=>rfl
    |_=>rfl
   |some f =>
    cases e with
    |one u =>
     cases u with
     |s k d z rows=>simp[Sl.er,aB]
     |any=>rfl
     |v a =>
      cases f with
      |one v=>cases v with
       |s k d z rows=>cases a<;>simp[Sl.er,aB,dx]
       |any=>cases a<;>rfl
       |v b=>cases a<;>cases b<;>rfl
      |_=>cases a<;>rfl
    |_=>rfl
 ·rename_i x y _ _;simp only[cg];cases g:opd mkD.nil D x with
  |none=>rfl
  |some e =>
   cases h:opd mkD.nil D y with
   |none=>cases e with
    |one u=>cases u with
     |s k d z rows=>simp[Sl.er,aB]
     |v a=>cases a<;>rfl
     |any=>rfl
    |_=>rfl
   |some f =>
    cases e with
    |one u =>
     cases u with
     |s k d z rows=>simp[Sl.er,aB]
     |any=>rfl
     |v a =>
      cases f with
      |one v=>cases v with
       |s k d z rows=>cases a<;>simp[Sl.er,aB,dx]
       |any=>cases a<;>rfl
       |v b=>cases a<;>cases b<;>rfl
      |_=>cases a<;>rfl
    |_=>rfl
 ·rfl
theorem Mo (us:List DT)(off:Nat):(erL us)[off]?=(us[off]?).map T.er:=by simp[erL]
theorem yH (tab:Tab)(us c:List DT):∀l,i7 tab (erL us) (erL c) l=i7 tab us c l
 |[]=>rfl
 |(off,e)::r=>by
  simp only[i7,Mo];cases tab.ti e with
  |none=>rfl
  |some ti =>
   cases us[off]? with
   |none=>rfl
   |some u =>
    cases c[off]? with
    |none=>cases u with
     |s k d z rows=>simp[aB]
     |_=>rfl
    |some v =>
     cases u with
     |s k d z rows=>simp[aB]
     |any=>rfl
     |v a =>
      cases v with
      |s k d z rows=>simp[aB,dx]
      |any=>rfl
      |v b=>simp only[N7,dx,yH tab us c r]
theorem Mm (tab:Tab)(op:BinOp)(t:Nat)(us a:List DT):eqS tab op t (erL us) (erL a)=eqS tab op t us a:=by
 have:i7 tab (erL us) (erL a)=i7 tab us a:=funext fun l=>yH tab us a l
 unfold eqS;rw[this]
theorem xP (tab:Tab)(D:DSt)(op:Op):bP mkU tab (erD D) op=(bP mkD tab D op).map Sl.er:=by
 cases op with
 |move x=>exact cg D x
 |assign x=>exact cg D x
 |pick c x y =>
  simp only[bP,cg];cases opd mkD.nil D c with
  |none=>rfl
  |some s =>
   cases s with
   |one u =>
    cases u with
    |s k d z rows=>simp[Sl.er,aB]
    |any=>rfl
    |v b=>(cases b<;>first|rfl|skip);rename_i b;cases b<;>rfl
   |_=>rfl
 |nilCheck x =>
  simp only[bP,cg];cases opd mkD.nil D x with
  |none=>rfl
  |some s=>simp only[N7,N4,K0];split<;>rfl
 |binOp op t x y ty =>
  simp only[bP,cg];cases n:opd mkD.nil D x with
  |none=>rfl
  |some e =>
   cases o:opd mkD.nil D y with
   |none=>cases e with
    |one u=>cases u with
     |s k d z rows=>simp[Sl.er,aB]
     |v a=>first|rfl|(cases a<;>rfl)
     |any=>rfl
    |_=>rfl
   |some j =>
    cases e with
    |one u =>
     cases u with
     |s k d z rows=>simp[Sl.er,aB]
     |any=>rfl
     |v a =>
      cases j with
      |one v=>cases v with
       |s k d z rows=>first|(simp[Sl.er,aB,dx];done)|(cases a<;>simp[Sl.er,aB,dx])
       |any=>first|rfl|(cases a<;>rfl)
       |v b=>simp only[N7,Sl.er,dx,O6];rfl
      |_=>first|rfl|(cases a<;>rfl)
    |agg us =>
     cases j with
     |agg w =>simp only[N7,Sl.er,Mm,O6];rfl
     |one v=>cases v<;>rfl
     |_=>rfl
    |_=>rfl
 |unOp op t x =>
  simp only[bP,cg];cases opd mkD.nil D x with
  |none=>rfl
  |some s =>
   cases s with
   |one u =>
    cases u with
    |s k d z rows=>simp[Sl.er,aB]
    |any=>rfl
    |v b=>cases b<;>first|rfl|(cases op<;>rfl)
   |_=>rfl
 |convert p dst x =>
  simp only[bP,cg];cases opd mkD.nil D x with
  |none=>rfl
  |some s =>
   cases s with
   |one u =>
    cases u with
    |s k d z rows=>simp[Sl.er,aB]
    |any=>rfl
    |v b =>
     cases b<;>first|rfl|skip
     simp only[N7,Sl.er,dx];split<;>simp_all[Sl.er,dx]
   |_=>rfl
 |load t x =>
  simp only[bP,cg];cases opd mkD.nil D x with
  |none=>rfl
  |some s =>
   cases tab.ti t with
   |none=>rfl
   |some ti=>simp only[N7];split<;>first|rfl|exact Jq D ti s
 |fieldAddr t x f =>
  simp only[bP,cg];cases opd mkD.nil D x with
  |none=>rfl
  |some s=>simp only[N7,N4];exact z6 tab t s f
 |indexAddr t x i =>
  simp only[bP,cg];cases n:opd mkD.nil D x with
  |none=>rfl
  |some e =>
   cases hi:opd mkD.nil D i with
   |none=>rfl
   |some q =>
    cases q with
    |one u =>
     cases u with
     |s k d z rows=>simp[Sl.er,aB]
     |any=>rfl
     |v b =>
      cases b<;>first|rfl|skip
      exact z7 D tab t e _
    |_=>rfl
 |index t x y =>
  simp only[bP,cg];cases n:opd mkD.nil D x with
  |none=>rfl
  |some e =>
   cases o:opd mkD.nil D y with
   |none=>cases e with
    |one u=>cases u with
     |s k d z rows=>simp[Sl.er,aB]
     |v a=>cases a<;>rfl
     |any=>rfl
    |clo g hs=>cases g<;>rfl
    |_=>rfl
   |some j =>
    cases e with
    |clo g hs =>
     cases g with
     |fn f=>rfl
     |arr offs =>
      cases j with
      |one v=>cases v with
       |s k d z rows=>simp[Sl.er,aB]
       |any=>rfl
       |v b =>
        cases b<;>first|rfl|skip
        simp only[N7,Sl.er,dx];split
        ·split<;>simp_all[Sl.er]
        ·rfl
      |_=>rfl
    |one u =>
     cases u with
     |s k d z rows=>simp[Sl.er,aB]
     |any=>rfl
     |v a =>
      cases a<;>first|rfl|skip
      cases j with
      |one v=>cases v with
       |s k d z rows=>simp[Sl.er,aB,dx]
       |any=>rfl
       |v b =>
        cases b<;>first|rfl|skip
        simp only[N7,Sl.er,dx];split
        ·split<;>simp[Sl.er,dx]
        ·rfl
      |_=>rfl
    |_=>rfl
 |slice t x lo hi r =>
  cases r with
  |some m=>rfl
  |none =>
   simp only[bP,cg,HJ];cases n:opd mkD.nil D x with
   |none=>rfl
   |some e =>
    cases ia mkD.nil D lo with
    |none=>rfl
    |some l =>
     cases ia mkD.nil D hi with
     |none=>rfl
     |some h=>exact HO D tab t e l h
 |call c=>exact KV tab D c
 |_=>rfl
theorem DB (k:Kd)(d:Dec)(z lo len:Nat)(rows:List (List DT)):(T.s k (mkD.win d lo z) z ((rows.drop lo).take len):DT).er = .s k (mkU.win () lo z) z (((rows.map erL).drop lo).take len):=by rw[aB,P5,P6];try rfl
theorem i8 (D:DSt)(x:Operand):cellsCopy mkU (erD D) x=(cellsCopy mkD D x).map fun p=>(p.1,erL p.2):=by
 simp only[cellsCopy,cg];cases opd mkD.nil D x with
 |none=>rfl
 |some s =>
  cases s with
  |al h c st lo len =>
   simp only[N7,Sl.er,oJ];split
   ·cases cA D h c st with
    |none=>rfl
    |some t =>
     cases t with
     |s k d z rows=>simp only[N7,aB];rw[←DB];rfl
     |_=>rfl
   ·rfl
  |_=>rfl
theorem gZ (f:DT→Bool)(g:T Unit→Bool)(h:∀t,g t.er=f t)(ts:List DT):(erL ts).all g=ts.all f:=by simp only[erL,O9];congr 1;funext t;exact h t
theorem hJ (D:DSt)(x:Operand):cellsTake mkU (erD D) x=(cellsTake mkD D x).map fun p=>(p.1,erL p.2.1,erD p.2.2):=by
 cases x with
 |tmp t =>
  simp only[cellsTake,bW];cases D[t]? with
  |none=>rfl
  |some s =>
   cases s with
   |one u=>simp only[N7,Sl.er,cR];split<;>simp[iC]
   |agg ts =>simp only[N7,Sl.er,gZ T.noLent T.noLent ju];split<;>simp[iC]
   |al h c st lo len =>
    simp only[N7,Sl.er,oJ];split
    ·cases cA D h c st with
     |none=>rfl
     |some n =>
      cases n with
      |s k d z rows =>
       cases k with
       |own =>
        simp only[N7,aB];rw[←kC,nP (f:=fun _=>some .any) (f':=fun _=>some .any) (fun t=>rfl)];cases c8 (fun _=>some .any) (St.dead (cK h c) (qHC h c) D) h c st with
        |none=>rfl
        |some D'=>simp only[N7];rw[←DB];rfl
       |_=>simp[aB]
      |_=>rfl
    ·rfl
   |_=>rfl
 |_=>rfl
theorem yG (D:DSt)(x:Operand)(tk:Bool):cellsOf mkU (erD D) x tk=(cellsOf mkD D x tk).map fun p=>(p.1,erL p.2.1,erD p.2.2):=by
 unfold cellsOf;split
 ·exact hJ D x
 ·rw[i8];cases cellsCopy mkD D x<;>rfl
theorem so (g:Bool)(ts:List DT):(gA g (erL ts):Option (Sl Unit Unit))=(gA g ts:Option DSl).map Sl.er:=by
 cases g with
 |true=>rfl
 |false =>
  match ts with
  |[]=>rfl
  |[t]=>rfl
  |t::u::r=>rfl
theorem kE (l:List DT)(o:Nat)(new:List DT):erL (an l o new)=an (erL l) o (erL new):=by simp[an,erL,Pg,P5,P6]
theorem Jy (i off:Nat)(us:List DT)(t:DT):setRow i off (erL us) t.er=(setRow i off us t).map T.er:=by
 cases t with
 |s k d z rows =>
  simp only[aB,setRow,Ok];cases rows[i]? with
  |none=>rfl
  |some row =>
   simp only[N7,N4,OF];split
   ·simp only[N7,aB,Qc,kE]
   ·rfl
 |_=>rfl
theorem yK (D:DSt)(p:DSl)(us:List DT):gY (erD D) p.er (erL us)=(gY D p us).map erD:=by
 cases p with
 |pb h off =>
  simp only[Sl.er,gY,bW];cases D[h]? with
  |none=>rfl
  |some s =>
   cases s with
   |box b ts =>
    simp only[N7,Sl.er,OF];split
    ·simp only[N7,fM,Sl.er,kE,kC,tu]
    ·rfl
   |_=>rfl
 |pe h c st i off =>
  simp only[Sl.er,gY,gZ T.fine T.fine nO,jt];split
  ·cases aq D h c with
   |none=>rfl
   |some t =>
    simp only[N7,cR,sk];split
    ·cases getN t st with
     |none=>rfl
     |some n =>
      cases n with
      |s k d z rows =>
       simp only[N7,aB,Ok];cases rows[i]? with
       |none=>rfl
       |some row =>
        simp only[N7,OF];split
        ·have e:(((erL row).drop off).take us.length).all T.flat=((row.drop off).take us.length).all T.flat:=by rw[←gZ T.flat T.flat sj];simp[erL,P5,P6]
         rw[e, ←kC];exact nP (fun t=>Jy i off us t) _ h c st
        ·rfl
      |_=>rfl
    ·rfl
  ·rfl
 |_=>rfl
theorem HP (tab:Tab)(D:DSt)(t:Nat)(p x:Operand)(tk:Bool):oj mkU tab (erD D) t p x tk=(oj mkD tab D t p x tk).map erD:=by
 simp only[oj,yG];cases tab.ti t with
 |none=>rfl
 |some ti =>
  cases cellsOf mkD D x tk with
  |none=>rfl
  |some r =>
   obtain⟨g,us,D1⟩:=r;simp only[N7,OF];split
   ·rw[cg];cases opd mkD.nil D1 p with
    |none=>rfl
    |some q=>simp only[N7,N4];exact yK D1 q us
   ·rfl
theorem Dv (t:T Unit):(t.inj nilD).er=t.inj ():=by
 cases t with
 |s k d z rows=>simp[T.inj,aB]
 |_=>rfl
theorem HD (w:World)(tab:Tab)(D:DSt)(dst:Option Nat)(t:Nat):mB mkU frU tab (erD D) dst t=(mB mkD (frD w) tab D dst t).map erD:=by
 simp only[mB];cases tab.ti t with
 |none=>rfl
 |some ti =>
  cases dst with
  |none=>rfl
  |some d =>
   simp only[eG];split
   ·simp only[N7,ca,Sl.er,erL,OQ];have e:ti.zero.map (T.inj mkU.nil)=ti.zero.map (T.er ∘ T.inj mkD.nil):=OO fun t _=>(Dv t).symm
    rw[e]
   ·rfl
theorem KR (w:World)(D:DSt)(dst:Option Nat)(x:Operand)(tk:Bool):wE mkU frU (erD D) dst x tk=(wE mkD (frD w) D dst x tk).map erD:=by
 simp only[wE,yG];cases cellsOf mkD D x tk with
 |none=>rfl
 |some r =>
  obtain⟨g,us,D1⟩:=r;cases dst with
  |none=>rfl
  |some d =>
   simp only[N7,eG];split
   ·simp only[N7,ca,Sl.er];try rfl
   ·rfl
theorem xb (D:DSt)(x:Operand)(dst:Option Nat):
  ((cellsTake mkU (erD D) x).bind fun r=>match dst with|some t=>if t<r.2.2.length then(gA r.1 r.2.1).map fun s=>aT r.2.2 (some t) s else none|none=>none)=
   ((cellsTake mkD D x).bind fun r=>match dst with|some t=>if t<r.2.2.length then(gA r.1 r.2.1).map fun s=>aT r.2.2 (some t) s else none|none=>none).map erD:=by
 rw[hJ];cases cellsTake mkD D x with
 |none=>rfl
 |some r =>
  obtain⟨g,us,D1⟩:=r;cases dst with
  |none=>rfl
  |some d =>
   simp only[N7,N4,eG,so];split
   ·cases(gA g us:Option DSl)with
    |none=>rfl
    |some s=>simp only[N7,ca]
   ·rfl
theorem FG (tab:Tab)(D:DSt)(t:Nat)(x:Operand):jF mkU tab (erD D) t x=(jF mkD tab D t x).map fun r=>(r.1,erL r.2.1,erD r.2.2):=by
 unfold jF;rw[cg];cases tab.ti t with
 |none=>rfl
 |some ti =>
  cases a:opd mkD.nil D x with
  |none=>rfl
  |some s =>
   cases s with
   |pb h off =>
    cases off with
    |zero =>
     simp only[N7,Sl.er,bW];cases D[h]? with
     |none=>rfl
     |some u =>
      cases u with
      |box b ts =>
       simp only[N7,Sl.er,OF];have e:(erL ts).all T.noLent=ts.all T.noLent:=by
        rw[O9];congr 1;funext u;cases u with
        |s k d z r=>cases k<;>simp[aB,T.noLent]
        |_=>rfl
       rw[e];split
       ·simp[iC]
       ·rfl
      |_=>rfl
    |succ n=>rfl
   |one u=>simp[Sl.er]
   |_=>rfl
theorem FF (tab:Tab)(D:DSt)(t:Nat)(x:Operand)(dst:Option Nat):
  ((jF mkU tab (erD D) t x).bind fun r=>match dst with|some t=>if t<r.2.2.length then(gA r.1 r.2.1).map fun s=>aT r.2.2 (some t) s else none|none=>none)=
   ((jF mkD tab D t x).bind fun r=>match dst with|some t=>if t<r.2.2.length then(gA r.1 r.2.1).map fun s=>aT r.2.2 (some t) s else none|none=>none).map erD:=by
 rw[FG];cases jF mkD tab D t x with
 |none=>rfl
 |some r =>
  obtain⟨g,us,D1⟩:=r;cases dst with
  |none=>rfl
  |some d =>
   simp only[N7,N4,eG,so];split
   ·cases(gA g us:Option DSl)with
    |none=>rfl
    |some s=>simp only[N7,ca]
   ·rfl
theorem jZ (tab:Tab)(D:DSt)(op:Op)(dst:Option Nat):((bP mkU tab (erD D) op).bind fun s=>dT (erD D) dst s)=((bP mkD tab D op).bind fun s=>dT D dst s).map erD:=by
 rw[xP];cases bP mkD tab D op with
 |none=>rfl
 |some s=>simp only[N7,N4];exact mG D dst s
theorem vk (D:DSt)(z:Nat):∀(a:List (Nat×Operand))(rows:List (List DT)),jq mkU (erD D) z a (rows.map erL)=(jq mkD D z a rows).map (List.map erL)
 |[],rows=>rfl
 |(i,x)::r,rows=>by
  simp only[jq,i8];cases cellsCopy mkD D x with
  |none=>rfl
  |some b =>
   obtain⟨g,us⟩:=b;simp only[N7,OF,gZ T.fine T.fine nO];split
   ·have e:(rows.map erL).set i (erL us)=(rows.set i us).map erL:=by rw[Qc]
    rw[e];exact vk D z r _
   ·rfl
theorem nQ (ti:TI):ti.zero.map (T.inj mkU.nil)=erL (ti.zero.map (T.inj mkD.nil)):=by simp only[erL,OQ];exact OO fun t _=>(Dv t).symm
theorem qT (w:World)(tab:Tab)(D:DSt)(dst:Option Nat)(t len:Nat)(a:List (Nat×Operand)):eb mkU frU tab (erD D) dst t len a=(eb mkD (frD w) tab D dst t len a).map erD:=by
 unfold eb;split
 ·rename_i sz c h e d f;cases tab.ti e with
  |none=>rfl
  |some b =>
   simp only[eG];split
   ·have g:List.replicate len (b.zero.map (T.inj mkU.nil))=(List.replicate len (b.zero.map (T.inj mkD.nil))).map erL:=by rw[QK,nQ]
    rw[g,vk];cases jq mkD D b.size a (List.replicate len (b.zero.map (T.inj mkD.nil)))with
    |none=>rfl
    |some rows=>simp only[N7,ca,Sl.er,aB]
   ·rfl
 ·rfl
theorem HI (s:DSl):intOfSl s.er=intOfSl s:=by
 cases s with
 |one u =>
  cases u with
  |s k d z r=>simp[Sl.er,aB,intOfSl]
  |v x=>cases x<;>rfl
  |any=>rfl
 |_=>rfl
theorem Dx (D:DSt)(x:Operand):(opd mkU.nil (erD D) x).bind intOfSl=(opd mkD.nil D x).bind intOfSl:=by
 rw[cg];cases opd mkD.nil D x with
 |none=>rfl
 |some s=>exact HI s
theorem sn (w:World)(tab:Tab)(D:DSt)(dst:Option Nat)(t:Nat)(l c:Operand):ee mkU frU tab (erD D) dst t l c=(ee mkD (frD w) tab D dst t l c).map erD:=by
 unfold ee;rw[Dx,Dx];split
 ·rename_i sz b h e d n k f i hc;cases tab.ti e with
  |none=>rfl
  |some a =>
   simp only[eG];split
   ·split
    ·have g:List.replicate n.toNat (a.zero.map (T.inj mkU.nil))=(List.replicate n.toNat (a.zero.map (T.inj mkD.nil))).map erL:=by rw[QK,nQ]
     rw[g];simp only[N7,ca,Sl.er,aB]
    ·rfl
   ·rfl
 ·rfl
theorem LR (t:DT):t.hole.er=t.er.hole:=by
 cases t with
 |s k d z r=>cases k<;>simp[T.hole,aB,sg]
 |_=>rfl
theorem Dr (D:DSt)(dst:Option Nat)(x:Operand)(i:Nat):mI (erD D) dst x i=(mI D dst x i).map erD:=by
 cases x with
 |tmp t =>
  cases dst with
  |none=>rfl
  |some d =>
   simp only[mI,bW];cases D[t]? with
   |none=>rfl
   |some s =>
    cases s with
    |tup rs =>
     simp only[N7,Sl.er,Ok];cases rs[i]? with
     |none=>rfl
     |some r =>
      obtain⟨g,ts⟩:=r;simp only[N7,eG,gZ T.noLent T.noLent ju];split
      ·rw[so];cases(gA g ts:Option DSl)with
       |none=>rfl
       |some s =>
        simp only[N7,ca,fM,Sl.er,Qc];have e:erL (ts.map T.hole)=(erL ts).map T.hole:=by simp only[erL,OQ];exact OO fun t _=>LR t
        rw[e]
      ·rfl
    |_=>rfl
 |_=>cases dst<;>rfl
theorem jR (D:DSt)(pl:List (Nat×Nat)):∀(a:List (Nat×Operand))(ts:List DT),ce mkU (erD D) pl a (erL ts)=(ce mkD D pl a ts).map erL
 |[],ts=>rfl
 |(i,x)::r,ts=>by
  simp only[ce,i8];cases pl[i]? with
  |none=>rfl
  |some q =>
   obtain⟨off,size⟩:=q;cases cellsCopy mkD D x with
   |none=>rfl
   |some b =>
    obtain⟨g,us⟩:=b;simp only[N7,OF];split
    ·rw[←kE];exact jR D pl r _
    ·rfl
theorem HE (tab:Tab)(D:DSt)(t:Nat)(a:List (Nat×Operand)):nM mkU tab (erD D) t a=(nM mkD tab D t a).map Sl.er:=by
 simp only[nM];cases tab.ti t with
 |none=>rfl
 |some ti =>
  cases tab.pl t with
  |none=>rfl
  |some pl =>
   have e:ti.zero.map (T.inj mkU.nil)=erL (ti.zero.map (T.inj mkD.nil)):=by simp only[erL,OQ];exact OO fun t _=>(Dv t).symm
   simp only;rw[e,jR];cases ce mkD D pl a (ti.zero.map (T.inj mkD.nil))<;>rfl
theorem tz (D:DSt)(x:Operand):jY (erD D) x=jY D x:=by
 cases x with
 |tmp t =>
  simp only[jY,bW];cases D[t]? with
  |none=>rfl
  |some s =>
   cases s with
   |pb h off=>cases off<;>rfl
   |_=>rfl
 |_=>rfl
theorem xa (D:DSt):∀(xs:List Operand),ml (erD D) xs=ml D xs
 |[]=>rfl
 |x::xs=>by simp only[ml,tz,xa D xs]
theorem KU (D:DSt)(f:FuncId)(xs:List Operand):tj (erD D) f xs=(tj D f xs).map Sl.er:=by unfold tj;rw[xa,O6];rfl
theorem HC (rows:List (List DT)):(rows.map erL).all (fun r=>r.all T.flat)=rows.all (fun r=>r.all T.flat):=by rw[O9];congr 1;funext r;show(erL r).all T.flat=_;rw[O9];congr 1;funext t;exact sj t
theorem LO (D:DSt)(b:Bool)(x:Operand):th mkU (erD D) b x=(th mkD D b x).map fun p=>(p.1,p.2.1.map erL,erD p.2.2):=by
 unfold th;cases b with
 |true =>
  simp only[i8];cases cellsCopy mkD D x with
  |none=>rfl
  |some r =>
   obtain⟨g,ts⟩:=r;cases g with
   |true=>rfl
   |false =>
    match ts with
    |[]=>rfl
    |[.v v]=>rfl
    |[.any]=>rfl
    |u::v::r=>(cases u with|s k d z e=>simp[aB]|_=>rfl)
    |[.s i f z2 a]=>simp only[N7,Oq,OL,aB,HC];split<;>rfl
 |false =>
  simp only[hJ];cases cellsTake mkD D x with
  |none=>rfl
  |some r =>
   obtain⟨g,ts,j⟩:=r;cases g with
   |true=>rfl
   |false =>
    match ts with
    |[]=>rfl
    |[.v v]=>rfl
    |[.any]=>rfl
    |[.s .far d z rows]=>simp[aB]
    |[.s (.lent h c b) d z rows]=>simp[aB]
    |u::v::r=>(cases u with|s k d z e=>(cases k<;>simp[aB])|_=>rfl)
    |[.s .own f z2 a]=>simp[aB]
theorem FA (w:World)(tab:Tab)(D:DSt)(dst:Option Nat)(t t2:Nat)(s x:Operand):kz mkU frU tab (erD D) dst t t2 s x=(kz mkD (frD w) tab D dst t t2 s x).map erD:=by
 unfold kz;rw[hJ];cases hs:cellsTake mkD D s with
 |none =>
  cases tab.ti t with
  |none=>rfl
  |some ti =>
   obtain⟨_,_,_,sh⟩:=ti;cases sh<;>try rfl
   cases tab.ti t2 with
   |none=>rfl
   |some a =>
    obtain⟨_,_,_,b⟩:=a;cases b<;>try rfl
    cases dst<;>rfl
 |some r =>
  obtain⟨g,ts,D1⟩:=r;cases tab.ti t with
  |none=>rfl
  |some ti =>
   obtain⟨_,_,_,sh⟩:=ti;cases sh<;>try rfl
   rename_i e;cases tab.ti t2 with
   |none=>rfl
   |some a =>
    obtain⟨_,_,_,b⟩:=a;cases b<;>try rfl
    cases dst with
    |none=>rfl
    |some l =>
     cases g with
     |true=>rfl
     |false =>
      match ts with
      |[]=>rfl
      |[.v v]=>rfl
      |[.any]=>rfl
      |[.s .far d z rows]=>simp[aB]
      |[.s (.lent h c m) d z rows]=>simp[aB]
      |u::v::r=>(cases u with|s k d z n=>(cases k<;>simp[aB])|_=>rfl)
      |[.s .own d z rows]=>
       simp only[N7,Oq,OL,aB];cases tab.ti e with
       |none=>rfl
       |some i =>
        simp only[LO];cases th mkD D1 (i.zero.all T.flat) x with
        |none=>rfl
        |some j =>
         obtain⟨z2,f,o⟩:=j;simp only[N7,eG,OF];split
         ·split
          ·simp only[N7,ca,Sl.er,aB,Pg]
          ·rfl
         ·rfl
theorem vm:∀(rows:List (List DT)),dz (rows.map erL)=dz rows
 |[]=>rfl
 |r::rs=>by
  match r with
  |[]=>rfl
  |u::v::q =>
   cases u with
   |v x =>
    cases x with
    |int k n=>cases k<;>simp[dz,dx]
    |_=>simp[dz,dx]
   |any=>simp[dz,sg]
   |s k d z r=>simp[dz,aB]
  |[.any]=>rfl
  |[.s k d z rows]=>simp[aB,dz]
  |[.v (.int .u8 n)]=>simp only[Oq,OL,dx,dz,vm rs]
  |[.v x]=>
   cases x with
   |int k n=>cases k<;>first|rfl|simp only[Oq,OL,dx,dz,vm rs]
   |_=>rfl
theorem FC (tab:Tab)(D:DSt)(a dst:Nat)(x:Operand):kA mkU tab (erD D) a dst x=(kA mkD tab D a dst x).map (List.map erL):=by
 unfold kA;rw[i8];cases tab.ti a with
 |none=>rfl
 |some ti =>
  obtain⟨_,_,_,sh⟩:=ti;cases sh<;>try rfl
  rename_i e;cases tab.ti dst with
  |none=>rfl
  |some b =>
   obtain⟨_,_,_,c⟩:=b;cases c<;>try rfl
   cases cellsCopy mkD D x with
   |none=>rfl
   |some r =>
    obtain⟨g,ts⟩:=r;cases g with
    |true=>rfl
    |false =>
     match ts with
     |[]=>rfl
     |[.v v]=>rfl
     |[.any]=>rfl
     |u::v::r=>(cases u with|s k d z f=>simp[aB]|_=>rfl)
     |[.s k d z rows]=>
      simp only[N7,Oq,OL,aB];by_cases hz:z=1
      ·subst hz;simp only;split
       ·rfl
       ·rfl
      ·simp[hz]
theorem yL (D:DSt)(x:Operand):iy (erD D) x=(iy D x).map (List.map fun r=>(r.1,erL r.2)):=by
 unfold iy;cases x with
 |tmp t =>
  simp only[bW];cases D[t]? with
  |none=>rfl
  |some s =>
   cases s with
   |tup rs =>
    simp only[N7,Sl.er];have a:((rs.map fun r=>(r.1,erL r.2)).all fun r=>r.2.all T.flat)=rs.all fun r=>r.2.all T.flat:=by rw[O9];congr 1;funext r;show(erL r.2).all T.flat=_;rw[O9];congr 1;funext u;exact sj u
    have b:(rs.map fun r=>(r.1,erL r.2))≠[]↔rs≠[]:=by cases rs<;>simp
    by_cases h:(rs.all fun r=>r.2.all T.flat)=true∧rs≠[]
    ·rw[N5 h,N5 ⟨a.trans h.1,b.2 h.2⟩];rfl
    ·rw[Oh h,Oh (fun g=>h ⟨a.symm.trans g.1,b.1 g.2⟩)];rfl
   |_=>rfl
 |_=>rfl
theorem HR (D:DSt)(x:Operand)(dst:Option Nat):lA (erD D) x dst=(lA D x dst).map erD:=by
 cases x with
 |tmp t =>
  cases dst with
  |none=>rfl
  |some d =>
   simp only[lA,bW];cases D[t]? with
   |none=>rfl
   |some s =>
    cases s with
    |tup rs =>
     simp only[N7,Sl.er,eG];have a:((rs.map fun r=>(r.1,erL r.2)).all fun r=>r.2.all T.noLent)=rs.all fun r=>r.2.all T.noLent:=by rw[O9];congr 1;funext r;exact gZ T.noLent T.noLent ju r.2
     rw[a];split
     ·simp only[N7,ca,fM,Sl.er]
     ·rfl
    |_=>rfl
 |_=>cases dst<;>rfl
theorem HQ (s:ByteArray):(ix s:List (List DT)).map erL=ix s:=by unfold ix;rw[OQ];exact OO fun b _=>by simp[dx]
theorem BV (w:World)(tab:Tab)(D:DSt)(dst:Option Nat)(a t:Nat)(x:Operand):fK mkU frU tab (erD D) dst a t x=(fK mkD (frD w) tab D dst a t x).map erD:=by
 unfold fK;rw[cg];cases tab.ti a with
 |none=>rfl
 |some ti =>
  obtain⟨_,_,_,sh⟩:=ti;cases sh<;>try rfl
  cases tab.ti t with
  |none=>rfl
  |some b =>
   obtain⟨_,_,_,c⟩:=b;cases c<;>try rfl
   rename_i e;cases dst with
   |none=>rfl
   |some d =>
    cases f:opd mkD.nil D x with
    |none=>rfl
    |some s =>
     cases s with
     |one u =>
      cases u with
      |v y =>
       cases y with
       |string s =>
        simp only[N7,Sl.er,dx,eG];split
        ·split
         ·simp only[N7,ca,Sl.er,aB,HQ]
         ·rfl
        ·rfl
       |_=>rfl
      |any=>rfl
      |s k g z r=>simp[Sl.er,aB]
     |_=>rfl
theorem FJ (tab:Tab)(D:DSt)(t:Nat)(p:Operand)(z:Nat):mz mkU tab (erD D) t p z=(mz mkD tab D t p z).map erD:=by
 unfold mz;cases tab.ti t with
 |none=>rfl
 |some ti =>
  simp only;split
  ·rw[cg];cases opd mkD.nil D p with
   |none=>rfl
   |some a=>exact yK D a [.s .own nilD z []]
  ·rfl
theorem HL (us:List DT):(erL us).all (fun u=>u.isOwn ||u.flat)=us.all (fun u=>u.isOwn ||u.flat):=by show(us.map T.er).all _=_;rw[O9];congr 1;funext u;show(u.er.isOwn ||u.er.flat)=_;rw[cR,sj]
theorem zZ (w:World)(tab:Tab)(D:DSt)(dst:Option Nat)(t len:Nat)(a:List (Nat×Operand)):iR mkU frU tab (erD D) dst t len a=(iR mkD (frD w) tab D dst t len a).map erD:=by
 unfold iR;split
 ·rename_i sz b f e d x c;simp only[hJ];cases tab.ti e with
  |none=>rfl
  |some h =>
   cases cellsTake mkD D x with
   |none=>rfl
   |some r =>
    obtain⟨g,us,D1⟩:=r;simp only[N7,eG,OF,HL];split
    ·simp only[N7,ca,Sl.er,aB,Oq,OL]
    ·rfl
 ·rfl
theorem Jm (tab:Tab)(D:DSt)(dst:Option Nat)(t:Nat)(a:List (Nat×Operand)):mY mkU tab (erD D) dst t a=(mY mkD tab D dst t a).map erD:=by
 unfold mY;split
 ·rename_i ti pl i x r d b c;simp only[hJ];cases pl[i]? with
  |none=>rfl
  |some os =>
   obtain⟨off,size⟩:=os;cases cellsTake mkD D x with
   |none=>rfl
   |some q =>
    obtain⟨g,us,D1⟩:=q;simp only[N7,eG,OF];split
    ·have e:an (ti.zero.map (T.inj mkU.nil)) off (erL us)=erL (an (ti.zero.map (T.inj mkD.nil)) off us):=by rw[nQ,kE]
     rw[e,jR];cases ce mkD D1 pl r (an (ti.zero.map (T.inj mkD.nil)) off us)with
     |none=>rfl
     |some ts=>simp only[N7,ca,Sl.er]
    ·rfl
 ·rfl
theorem HM (D:DSt)(x:Operand):nY (erD D) x=nY D x:=by
 cases x with
 |tmp t =>
  simp only[nY,bW];cases D[t]? with
  |none=>rfl
  |some s =>
   simp only[N7];have a:∀ts:List DT,(erL ts).any T.isOwn=ts.any T.isOwn:=fun ts=>by rw[erL,QD];congr 1;funext t;exact cR t
   cases s with
   |one t=>exact cR t
   |agg ts=>exact a ts
   |tup rs =>simp only[Sl.er,Sl.isHome,QD];congr 1;funext r;exact a r.2
   |_=>rfl
 |_=>rfl
theorem HF (tab:Tab)(D:DSt)(dst:Option Nat)(t:Nat)(a:List (Nat×Operand)):pS mkU tab (erD D) dst t a=(pS mkD tab D dst t a).map erD:=by
 unfold pS;simp only[HM];split
 ·rename_i ti pl i x r d c e f;simp only[hJ,nQ,jR];cases pl[i]? with
  |none=>rfl
  |some os =>
   obtain⟨off,size⟩:=os;cases cellsTake mkD D x with
   |none=>rfl
   |some q =>
    obtain⟨g,us,D1⟩:=q;cases ce mkD D pl (a.takeWhile (fun p => !nY D p.2)) (ti.zero.map (T.inj mkD.nil))with
    |none=>rfl
    |some b =>
     simp only[N7,eG,OF,gZ T.noLent T.noLent ju];split
     ·rw[←kE,jR];cases ce mkD D1 pl r (an b off us)with
      |none=>rfl
      |some ts=>simp only[N7,ca,Sl.er]
     ·rfl
 ·rfl
theorem HG (tab:Tab)(D:DSt)(dst:Option Nat)(t:Nat)(a:List (Nat×Operand)):mD mkU tab (erD D) dst t a=(mD mkD tab D dst t a).map erD:=by unfold mD;rw[Jm,HF];cases mY mkD tab D dst t a<;>rfl
theorem K2 (w:World)(tab:Tab)(D:DSt)(o:Oper)(tk:Bool):cS mkU frU tab (erD D) o tk=(cS mkD (frD w) tab D o tk).map erD:=by
 obtain⟨dst,op,ty,pos,after,guard⟩:=o;cases op with
 |store t p x =>
  cases dst with
  |none =>
   simp only[cS];cases qt tab t x with
   |some z=>exact FJ tab D t p z
   |none=>exact HP tab D t p x tk
  |some d=>rfl
 |alloc t=>exact HD w tab D dst t
 |box t x=>exact KR w D dst x tk
 |move x =>
  simp only[cS];cases qt tab ty x with
  |some z=>exact mG D dst (.one (.s .own nilD z []))
  |none =>
   simp only[yL];cases iy D x with
   |some rs=>exact mG D dst (.tup rs)
   |none =>
    cases tk with
    |true =>
     simp only[OH,HR];cases lA D x dst with
     |some D'=>rfl
     |none=>exact xb D x dst
    |false=>exact jZ tab D (.move x) dst
 |assign x =>
  simp only[cS];cases qt tab ty x with
  |some z=>exact mG D dst (.one (.s .own nilD z []))
  |none =>
   cases tk with
   |true=>exact xb D x dst
   |false=>exact jZ tab D (.assign x) dst
 |load t x =>
  cases tk with
  |true=>exact FF tab D t x dst
  |false=>exact jZ tab D (.load t x) dst
 |extract x i=>exact Dr D dst x i
 |buildSlice t len a =>
  cases tk with
  |true=>exact zZ w tab D dst t len a.toList
  |false=>exact qT w tab D dst t len a.toList
 |makeSlice t l c=>exact sn w tab D dst t l c
 |call c =>
  simp only[cS];cases r8 c with
  |none=>exact jZ tab D (.call c) dst
  |some q =>obtain⟨t,t2,s,x⟩:=q;exact FA w tab D dst t t2 s x
 |convert b d x =>
  simp only[cS];rw[FC];cases kA mkD tab D b d x with
  |none =>
   simp only[Q2];rw[BV w];cases fK mkD (frD w) tab D dst b d x with
   |none=>exact jZ tab D (.convert b d x) dst
   |some e=>rfl
  |some rows =>
   simp only[N7,vm];cases dz rows with
   |none=>rfl
   |some xs=>simp only[N4];exact mG D dst (.one (.v (.string (strOfNums xs))))
 |makeFunc fn first caps =>
  cases fn with
  |func f =>
   simp only[cS];split
   ·rw[KU];cases tj D f caps.toList with
    |none=>rfl
    |some s=>simp only[N7,N4];exact mG D dst s
   ·rfl
  |_=>rfl
 |build t a =>
  cases tk with
  |true=>exact HG tab D dst t a.toList
  |false =>
   simp only[cS,Oz,OZ,HE];cases nM mkD tab D t a.toList with
   |none=>rfl
   |some s=>simp only[N7,N4];exact mG D dst s
 |_=>simp only[cS];exact jZ tab D _ dst
section
variable  {δ β : Type}
def oq (D:St δ β):List Nat→Option (List (β×List (T δ)))
 |[]=>some []
 |h::hs=>match D[h]? with|some (.box b ts)=>(oq D hs).map fun r=>(b,ts.map (T.view .far))::r|_=>none
def ims (caps:List (β×List (T δ))):List (Sl δ β):=caps.map fun p => .im .far p.1 p.2 0
def argOf (M:Mk δ β)(D:St δ β)(x:Operand):Option (Sl δ β):=
 match opd M.nil D x with
 |some (.im _ b ts off)=>some (.im .far b ts off)
 |some (.pb h off)=>match D[h]? with|some (.box b ts)=>some (.im .far b (ts.map (T.view .far)) off)|_=>none
 |some (.fni f caps)=>some (.fni f caps)
 |some (.pe _ _ _ _ _)=>none
 |some (.clo (.fn f) hs)=>(oq D hs).map (.fni f ·)
 |_=>(cellsCopy M D x).bind fun p=>gA p.1 (p.2.map (T.view .far))
def argsOf (M:Mk δ β)(D:St δ β):List Operand→Option (List (Sl δ β))|[]=>some []|x::xs=>(argOf M D x).bind fun s=>(argsOf M D xs).map fun r=>s::r
end
def Out (cx:Cx)(D:DSt)(X:List Nat):Prop:=∀b∈X,cx.may b∧bj D b=0
theorem Out.nil (cx:Cx)(D:DSt):Out cx D []:=fun b h=>by cases h
structure AOk (w:World)(X:List Nat)(a:DSl)(y:Value):Prop where
 val:∀D,VS D a y
 mem:MemS w a
 kind:∀D,dV ⟨w,X⟩ D a
 own:∀b∈ownBl a,b∈X∧b<w.heap.size
theorem jU {a:DSl}(h:a.isHome=false):ownBl a=[]:=by
 cases a with
 |one t=>exact eB h
 |agg ts =>
  show ts.flatMap ownR=[];rw[Ox];intro t c;refine eB ?_;cases d:t.isOwn with
  |false=>rfl
  |true =>have:ts.any T.isOwn=false:=h;rw[Qj]at this;exact absurd d (this t c)
 |box b ts=>cases h
 |tup rs =>
  show(rs.flatMap fun r=>r.2.flatMap ownR)=[];have e:(rs.any fun r=>r.2.any T.isOwn)=false:=h;rw[Qj]at e;rw[Ox];intro r f;rw[Ox];intro t c;refine eB ?_;cases d:t.isOwn with
  |false=>rfl
  |true=>exact absurd (Pt.2 ⟨t,c,d⟩) (e r f)
 |_=>rfl
theorem iU {w:World}{X:List Nat}{a:DSl}(h:ownBl a=[]):∀b∈ownBl a,b∈X∧b<w.heap.size:=fun b hb=>by rw[h]at hb;cases hb
theorem MT {w:World}{b:Nat}(h:b<w.heap.size):(Cx.mk w []).far b:=⟨h,by simp⟩
theorem Inv.farX {cx:Cx}{D:DSt}{P:List (DT×Value)}{tm:Array Value}{w:World}(I:Inv cx D P tm w){X:List Nat}(a:Out cx D X){b:Nat}(h:cx.far b):(Cx.mk w X).far b :=
 ⟨OM h.1 I.frame.size,fun hb=>Cx.far_not h (a b hb).1⟩
theorem JN (t:DT):(t.view .far).isOwn=false:=by cases t<;>rfl
theorem AOk.views {w:World}{X:List Nat}{ts:List DT}{ys:List Value}{g:Bool}{y:Value}{s:DSl}(hv:VCells ts ys)(hh:∀t∈ts,Holds w t)(hb:∀t∈ts,∀b∈bl t,(Cx.mk w X).far b)
  (j:bZ g y ys) (hs:gA g (ts.map (T.view .far))=some s):AOk w X s y∧s.isHome=false:=by
 have l:∀D,∀t∈ts.map (T.view .far),bz ⟨w,X⟩ D t:=by
  intro D t a;obtain⟨u,c,rfl⟩:=Oo.1 a;cases u with
  |v x=>trivial
  |any=>trivial
  |s k d z r=>exact fun x m=>hb _ c x (by rw[cl]at m ⊢;exact m)
 have n:∀t∈ts.map (T.view .far),Holds w t:=by intro t a;obtain⟨u,c,rfl⟩:=Oo.1 a;exact kV (hh u c)
 have f:∀t∈ts.map (T.view .far),t.isOwn=false:=by intro t a;obtain⟨u,c,rfl⟩:=Oo.1 a;exact JN u
 have o:VCells (ts.map (T.view .far)) ys:=by refine⟨by simpa using hv.1,fun i t y hi j => ?_⟩;rw[Ok,N9]at hi;obtain⟨u,c,rfl⟩:=hi;exact pR.2 (hv.2 i u y c j)
 have p:(ts.map (T.view .far)).flatMap ownR=[]:=by rw[Ox];intro t a;exact eB (f t a)
 generalize ts.map (T.view .far)=us at *;unfold gA at hs;split at hs
 ·cases hs;refine⟨⟨fun D=>⟨ys.toArray,by simpa[bZ]using j,by simpa using o⟩,⟨n,fun t a h => ?_,trivial⟩,fun D t a=>l D t a,iU p⟩,by show us.any T.isOwn=false;rw[Qj];exact fun t a=>by rw[f t a];exact Pm⟩;rw[f t a]at h;cases h
 ·rename_i t;cases hs;have e:ys=[y]:=by simpa[bZ]using j
  subst e;refine⟨⟨fun D=>o.2 0 t y rfl rfl,⟨fun u c=>n u (by simpa[aj]using c),fun u c h => ?_,trivial⟩,fun D u c=>l D u (by simpa[aj]using c),iU (by simpa[ownBl]using p)⟩,f _ (OK _)⟩;have:=f u (by simpa[rootsO]using c);rw[this]at h;cases h
 ·cases hs
theorem Inv.out_kind {cx:Cx}{D:DSt}{P:List (DT×Value)}{tm:Array Value}{w:World}(I:Inv cx D P tm w){X:List Nat}(a:Out cx D X){t:DT}(e:bz cx D t)(f:t.isOwn=false):∀b∈bl t,(Cx.mk w X).far b:=by
 intro b hb;cases t with
 |v x=>simp[bl]at hb
 |any=>simp[bl]at hb
 |s k d z r =>
  cases k with
  |own=>cases f
  |far=>exact I.farX a (e b hb)
  |lent h c o =>obtain⟨t',g,i,j,l⟩:=e;obtain⟨s,g1,m,g3,n,g4⟩:=bU g;have p:=cj (b:=b) m (g4 i b (j b hb));exact⟨(I.bnd b (by omega)).2,fun q=>by have:=(a b q).2;omega⟩
theorem Inv.out_own {cx:Cx}{D:DSt}{P:List (DT×Value)}{tm:Array Value}{w:World}(I:Inv cx D P tm w){X:List Nat}(a:Out cx D X){s:DSl}(hs:s∈D){b:Nat}(hb:b∈ownBl s):(Cx.mk w X).far b:=by have c:=cj (b:=b) hs hb;exact⟨(I.bnd b (by omega)).2,fun q=>by have:=(a b q).2;omega⟩
theorem yA {D:DSt}:∀{hs:List Nat}{caps:List ((Nat×Nat)×List DT)},oq D hs=some caps→caps.length=hs.length ∧
  ∀(i h:Nat),hs[i]?=some h→∃(b:Nat×Nat) (ts:List DT),D[h]?=some (.box b ts)∧caps[i]?=some (b,ts.map (T.view .far))
 |[],caps,h=>by cases h;exact⟨rfl,fun i h e=>by simp at e⟩
 |h::hs,caps,e=>by
  unfold oq at e;split at e
  ·rename_i b ts hb;rw[N9]at e;obtain⟨r,a,rfl⟩:=e;obtain⟨g1,c⟩:=yA a;refine⟨by simp[g1],fun i d hi => ?_⟩;cases i with
   |zero=>simp at hi;subst hi;exact⟨b,ts,hb,rfl⟩
   |succ i=>simp at hi;simpa using c i d hi
  ·cases e
theorem Inv.boxFar {cx:Cx}{D:DSt}{P:List (DT×Value)}{tm:Array Value}{w:World}(I:Inv cx D P tm w){X:List Nat}(i:Out cx D X){h:Nat}{b:Nat×Nat}{ts:List DT}(hb:D[h]?=some (.box b ts)):
  (Cx.mk w X).far b.1∧Lies w b (ts.map (T.view .far))∧(∀u∈ts.map (T.view .far),Holds w u)∧∀u∈ts.map (T.view .far),∀x∈bl u,(Cx.mk w X).far x:=by
 have a:=N8 hb;have l:=I.mem _ a;have k:∀t∈ts,∀x∈bl t,(Cx.mk w X).far x:=by
  intro t m x d;cases n:t.isOwn with
  |true=>exact I.out_own i a (by simp only[ownBl,OB,Oj];exact .inr ⟨t,m,by simp[ownR,n,d]⟩)
  |false=>exact I.out_kind i (I.kind _ a t m) n x d
 refine⟨I.out_own i a (by simp[ownBl]),?_,fun u g => ?_,fun u g x d => ?_⟩
 ·obtain⟨c,e,f,p,q⟩:=l.2.2.1;refine⟨c,e,f,p,fun j t o => ?_⟩;rw[Ok,N9]at o;obtain⟨u,g,rfl⟩:=o;obtain⟨y,r,s⟩:=q j u g;exact⟨y,r,pR.2 s⟩
 ·obtain⟨v,hv,rfl⟩:=Oo.1 g;exact kV (l.1 v hv)
 ·obtain⟨v,hv,rfl⟩:=Oo.1 g;rw[LK]at d;exact k v hv x d
theorem Inv.cloArg {cx:Cx}{D:DSt}{P:List (DT×Value)}{tm:Array Value}{w:World}(I:Inv cx D P tm w){X:List Nat}(j:Out cx D X){f:FuncId}{hs:List Nat}{caps:List ((Nat×Nat)×List DT)}(hc:oq D hs=some caps){y:Value}
  (hv:VS D (.clo (.fn f) hs) y):AOk w X (.fni f caps) y:=by
 obtain⟨k,u,r,rfl⟩:=hv;obtain⟨g1,n⟩:=yA hc;have a:∀p∈caps,∃(h:Nat) (ts:List DT),D[h]?=some (.box p.1 ts)∧p.2=ts.map (T.view .far):=by
  intro p g;obtain⟨i,hi⟩:=Og g;have l:i<hs.length:=by
   rcases Od i caps.length with q|q
   ·omega
   ·rw[Ob q]at hi;cases hi
  obtain⟨b,ts,c,d⟩:=n i hs[i] (Oa l);rw[hi]at d;cases d;exact⟨_,ts,c,rfl⟩
 have m:k=caps.map (·.1):=by
  apply Px;intro i;rcases Od i hs.length with q|q
  ·obtain⟨b,ts,c,d⟩:=n i hs[i] (Oa q);obtain⟨ts',o⟩:=r i hs[i] k[i] (Oa q) (Oa (by omega));rw[c]at o;cases o;rw[Ok,d,Oa (by omega)];rfl
  ·rw[Ob (by omega),Ob (by simp;omega)]
 refine⟨fun D => ?_,⟨fun t e => ?_,fun t e=>by simp[rootsO]at e,fun p g => ?_⟩,fun D p g => ?_,iU rfl⟩
 ·show Dj (.fn f) k=_;simp only[Dj,m,OQ];rfl
 ·simp only[aj,Oj]at e;obtain⟨p,g,e⟩:=e;obtain⟨h,ts,c,d⟩:=a p g;rw[d]at e;exact(I.boxFar j c).2.2.1 t e
 ·obtain⟨h,ts,c,d⟩:=a p g;rw[d];exact(I.boxFar j c).2.1
 ·obtain⟨h,ts,c,d⟩:=a p g;rw[d];exact⟨(I.boxFar j c).1,fun t e x s=>(I.boxFar j c).2.2.2 t e x s⟩
theorem AOk.ims {w:World}{X:List Nat}{f:FuncId}{caps:List ((Nat×Nat)×List DT)}{y:Value}(h:AOk w X (.fni f caps) y):∀(i:Nat)(a:DSl)(v:Value),(Am.ims caps)[i]?=some a→(caps.map fun b=>Value.pointer (some ⟨b.1.1,b.1.2,none⟩))[i]?=some v→AOk w X a v:=by
 intro i a v hi hv;unfold Am.ims at hi;rw[Ok,N9]at hi hv;obtain⟨p,h1,rfl⟩:=hi;obtain⟨j,e,rfl⟩:=hv;rw[h1]at e;cases e;have c:=N8 h1;have g:=h.mem;refine⟨fun D=>rfl,⟨fun t d => ?_,fun t d=>by simp[rootsO]at d,g.2.2 p c⟩,fun D => ?_,iU rfl⟩
 ·exact g.1 t (by simp only[aj,Oj];exact⟨p,c,by simpa[aj]using d⟩)
 ·have:=h.kind D p c;exact⟨this.1,this.2⟩
theorem JK (caps:List ((Nat×Nat)×List DT)):(Am.ims caps).flatMap ownBl=[]:=by rw[Ox];intro s hs;obtain⟨p,_,rfl⟩:=Oo.1 hs;rfl
theorem Inv.argOf {cx:Cx}{D:DSt}{P:List (DT×Value)}{a:Act}{w:World}(I:Inv cx D P a.tmps w){X:List Nat}(d:Out cx D X){x:Operand}{s:DSl}(e:argOf mkD D x=some s):AOk w X s (a.eval x)∧s.isHome=false:=by
 unfold Am.argOf at e;split at e
 ·rename_i k b ts off h;cases e;have i:=I.opd h;have u:=i.mem;have n:=i.kind;refine⟨⟨fun D=>i.val,⟨u.1,fun t c=>by simp[rootsO]at c,u.2.2⟩,fun D => ?_,iU rfl⟩,rfl⟩;cases k with
  |own=>exact n.elim
  |far=>exact⟨I.farX d n.1,fun t c x j=>I.farX d (n.2 t c x j)⟩
  |lent F H J =>obtain⟨t',l,q,z,A⟩:=n;obtain⟨s',g1,o,g3,B,g4⟩:=bU l;exact⟨I.out_own d o (g4 q _ z),fun t c x j=>I.out_own d o (g4 q _ (A t c x j))⟩
 ·rename_i h off r;split at e
  ·rename_i b ts hb;cases e;have i:=I.opd r;obtain⟨K,ts',m,C⟩:=i.val;rw[hb]at m;cases m;obtain⟨g1,o,g3,g4⟩:=I.boxFar d hb;exact⟨⟨fun D=>C,⟨fun t c=>g3 t (by simpa[aj]using c),fun t c=>by simp[rootsO]at c,o⟩,fun D=>⟨g1,g4⟩,iU rfl⟩,rfl⟩
  ·cases e
 ·rename_i f caps h;cases e;have i:=I.opd h;refine⟨⟨fun D=>i.val,i.mem,fun D p r => ?_,iU rfl⟩,rfl⟩;have:=i.kind p r;exact⟨I.farX d this.1,fun t c x j=>I.farX d (this.2 t c x j)⟩
 ·cases e
 ·rename_i f hs j;rw[N9]at e;obtain⟨caps,l,rfl⟩:=e;exact⟨I.cloArg d l (I.opd j).val,rfl⟩
 ·rw[N6]at e;obtain⟨⟨g,ts⟩,h,e⟩:=e;obtain⟨ys,G,hv⟩:=I.cellsCopy h;refine AOk.views G.v G.holds (fun t c b hb => ?_) hv e;cases y:t.isOwn with
  |false=>exact I.out_kind d (G.kind t c) y b hb
  |true =>have l:=G.cnt b;have q:0<(ts.flatMap ownR).count b:=Ot.2 (Oj.2 ⟨t,c,by simp[ownR,y,hb]⟩);rw[cq]at l;omega
def ArgsOk (w:World)(X:List Nat)(ad:List DSl)(c:List Value):Prop :=ad.length=c.length∧(∀(i:Nat)(a:DSl)(y:Value),ad[i]?=some a→c[i]?=some y→AOk w X a y)∧∀b,(ad.flatMap ownBl).count b≤1
theorem ArgsOk.nil (w:World)(X:List Nat):ArgsOk w X [] []:=⟨rfl,fun i a y h=>by simp at h,fun b=>by simp⟩
theorem ArgsOk.consH {w:World}{X:List Nat}{a:DSl}{y:Value}{as:List DSl}{ys:List Value}(h:AOk w X a y)(hc:∀b,(ownBl a).count b+(as.flatMap ownBl).count b≤1)(g:ArgsOk w X as ys):ArgsOk w X (a::as) (y::ys):=by
 refine⟨by simp[g.1],fun i d e hi c => ?_,fun b=>by rw[Oy,OA];exact hc b⟩;cases i with
 |zero=>simp at hi c;subst hi;subst c;exact h
 |succ i=>simp at hi c;exact g.2.1 i d e hi (by simpa using c)
theorem ArgsOk.consN {w:World}{X:List Nat}{a:DSl}{y:Value}{as:List DSl}{ys:List Value}(h:AOk w X a y)(hc:a.isHome=false)(g:ArgsOk w X as ys):ArgsOk w X (a::as) (y::ys):=
 ArgsOk.consH h (fun b=>by rw[jU hc];simpa using g.2.2 b) g
theorem G8 {ad:List DSl}(h:∀a∈ad,a.isHome=false):ad.flatMap ownBl=[]:=by rw[Ox];exact fun a b=>jU (h a b)
theorem Inv.argsOf {cx:Cx}{D:DSt}{P:List (DT×Value)}{a:Act}{w:World}(I:Inv cx D P a.tmps w){X:List Nat}(b:Out cx D X):∀{xs:List Operand}{ss:List DSl},argsOf mkD D xs=some ss→ArgsOk w X ss (xs.map a.eval)∧∀a∈ss,a.isHome=false
 |[],ss,e=>by cases e;exact⟨ArgsOk.nil w X,fun a h=>by cases h⟩
 |x::xs,ss,e=>by
  simp only[Am.argsOf,N6,N9]at e;obtain⟨s,d,r,f,rfl⟩:=e;obtain⟨g1,g⟩:=I.argsOf b f;obtain⟨i,c⟩:=I.argOf b d;exact⟨g1.consN i c,fun j ha=>by
   rcases OB.1 ha with rfl|ha
   ·exact c
   ·exact g j ha⟩
section
variable  {δ β : Type}
def argsIo (M:Mk δ β)(D:St δ β)(s:Sl δ β):Nat→List Operand→Option (List (Sl δ β))|_,[]=>none| 0,_::xs=>(argsOf M D xs).map fun r=>s::r|i+1,x::xs=>(argOf M D x).bind fun a=>(argsIo M D s i xs).map fun r=>a::r
end
def OneHome (s:DSl)(y:Value):Nat→List DSl→List Value→Prop|_,[],_=>False|_,_::_,[]=>False| 0,a::as,v::_=>a=s∧v=y∧∀a∈as,a.isHome=false|i+1,a::as,_::b=>a.isHome=false∧OneHome s y i as b
theorem Inv.argsIo {cx:Cx}{D:DSt}{P:List (DT×Value)}{a:Act}{w:World}(I:Inv cx D P a.tmps w){X:List Nat}(f:Out cx D X){s:DSl}{x:Operand}(hs:AOk w X s (a.eval x))(j:∀b,(ownBl s).count b≤1):
  ∀{i:Nat}{xs:List Operand}{ss:List DSl},xs[i]?=some x→argsIo mkD D s i xs=some ss→ArgsOk w X ss (xs.map a.eval)∧ss.flatMap ownBl=ownBl s∧OneHome s (a.eval x) i ss (xs.map a.eval)
 |_,[],ss,c,e=>by simp at c
 | 0,y::xs,ss,c,e=>by simp only[Am.argsIo,N9]at e;obtain⟨r,g,rfl⟩:=e;obtain⟨g1,d⟩:=I.argsOf f g;simp at c;subst c;exact⟨g1.consH hs fun b=>by rw[G8 d];simpa using j b,by rw[Oy,G8 d,OC],rfl,rfl,d⟩
 |i+1,y::xs,ss,c,e=>by simp only[Am.argsIo,N6,N9]at e;obtain⟨m,k,r,g,rfl⟩:=e;obtain⟨g1,d,g3⟩:=I.argsIo f hs j (by simpa using c) g;obtain⟨l,h⟩:=I.argOf f k;exact⟨g1.consN l h,by rw[Oy,jU h,d];rfl,h,g3⟩
theorem Dq (D:DSt):∀(hs:List Nat),oq (erD D) hs=(oq D hs).map (List.map fun p=>((),erL p.2))
 |[]=>rfl
 |h::hs=>by
  simp only[oq,bW];cases D[h]? with
  |none=>rfl
  |some s =>
   cases s with
   |box b ts =>
    simp only[N7,Sl.er,Dq D hs];cases oq D hs with
    |none=>rfl
    |some r=>simp only[N7,Oq,qc]
   |_=>rfl
theorem Jo (caps:List ((Nat×Nat)×List DT)):(ims caps).map Sl.er=ims (caps.map fun p=>((),erL p.2)):=by unfold ims;rw[OQ,OQ];rfl
theorem Do (D:DSt)(x:Operand):argOf mkU (erD D) x=(argOf mkD D x).map Sl.er:=by
 simp only[argOf,cg];have a:∀s:DSl,((cellsCopy mkU (erD D) x).bind fun p=>gA p.1 (p.2.map (T.view .far)))=((cellsCopy mkD D x).bind fun p=>(gA p.1 (p.2.map (T.view .far)):Option DSl)).map Sl.er:=by
  intro s;rw[i8];cases cellsCopy mkD D x with
  |none=>rfl
  |some p=>simp only[N7,N4, ←qc,so]
 cases d:opd mkD.nil D x with
 |none=>exact a .any
 |some s =>
  cases s with
  |pb h off =>
   simp only[N7,Sl.er,bW];cases D[h]? with
   |none=>rfl
   |some s=>cases s<;>first|rfl|simp only[N7,Sl.er,qc]
  |im k b ts off=>rfl
  |fni f caps=>rfl
  |pe h c st i off=>rfl
  |clo g hs =>
   cases g with
   |arr offs=>exact a .any
   |fn f =>
    simp only[N7,Sl.er,Dq];cases oq D hs with
    |none=>rfl
    |some r=>rfl
  |_=>exact a .any
theorem vj (D:DSt):∀(xs:List Operand),argsOf mkU (erD D) xs=(argsOf mkD D xs).map (List.map Sl.er)
 |[]=>rfl
 |x::xs=>by
  simp only[argsOf,Do,vj D xs];cases argOf mkD D x with
  |none=>rfl
  |some s =>
   simp only[N7,N4];cases argsOf mkD D xs with
   |none=>rfl
   |some r=>rfl
theorem Bk (D:DSt)(s:DSl):∀(i:Nat)(xs:List Operand),argsIo mkU (erD D) s.er i xs=(argsIo mkD D s i xs).map (List.map Sl.er)
 |_,[]=>by simp[argsIo]
 | 0,x::xs=>by
  simp only[argsIo,vj];cases argsOf mkD D xs with
  |none=>rfl
  |some r=>rfl
 |i+1,x::xs=>by
  simp only[argsIo,Do,Bk D s i xs];cases argOf mkD D x with
  |none=>rfl
  |some a =>
   simp only[N7,N4];cases argsIo mkD D s i xs with
   |none=>rfl
   |some r=>rfl
abbrev URes:=List (Bool×List (T Unit))
abbrev dw:=List (Bool×List DT)
def erR (rd:dw):URes:=rd.map fun r=>(r.1,erL r.2)
theorem tv (a b:dw):erR (a++b)=erR a++erR b:=by simp[erR]
def cv:DSl→List Nat| .box b _=>[b.1]|_=>[]
theorem LC {a:DSl}(h:a.isHome=false):cv a=[]:=by cases a<;>first|rfl|cases h
theorem L2 {ad:List DSl}(h:∀a∈ad,a.isHome=false):ad.flatMap cv=[]:=by rw[Ox];exact fun a b=>LC (h a b)
def bn (rd:dw):List Nat:=rd.flatMap fun r=>r.2.flatMap ownR
theorem kM (a b:dw):bn (a++b)=bn a++bn b:=by simp[bn]
inductive HK where|box|one|agg deriving DecidableEq
def cC {δ β:Type}:Sl δ β→Option HK| .box _ _=>some .box| .one u=>if u.isOwn=true then some .one else none| .agg ts=>if ts.any T.isOwn=true then some .agg else none|_=>none
theorem vt {a:DSl}(h:a.isHome=false):cC a=none:=by
 cases a with
 |one t=>simp[cC,show t.isOwn=false from h]
 |agg ts=>simp only[cC,show ts.any T.isOwn=false from h];rfl
 |box b ts=>cases h
 |_=>rfl
theorem Lb {a:DSl}(h:cC a=some .box):∃b ts,a = .box b ts:=by
 cases a with
 |box b ts=>exact⟨b,ts,rfl⟩
 |one u=>simp only[cC]at h;split at h<;>simp at h
 |agg ts=>simp only[cC]at h;split at h<;>simp at h
 |_=>simp[cC]at h
theorem xT {a:DSl}(h:cC a=some .one):∃u,a = .one u:=by
 cases a with
 |box b ts=>simp[cC]at h
 |one u=>exact⟨u,rfl⟩
 |agg ts=>simp only[cC]at h;split at h<;>simp at h
 |_=>simp[cC]at h
theorem La {a:DSl}(h:cC a=some .agg):∃ts,a = .agg ts:=by
 cases a with
 |box b ts=>simp[cC]at h
 |one u=>simp only[cC]at h;split at h<;>simp at h
 |agg ts=>exact⟨ts,rfl⟩
 |_=>simp[cC]at h
def yq (w':World)(a:DSl)(y:Value)(o:Bool×List DT):Prop :=
 match a with
 | .box b _=>o.1=true∧Lies w' b o.2∧Free w' b o.2.length
 | .one _=>VPart o y∧o.1=false
 | .agg _=>VPart o y∧o.1=true
 |_=>False
def OutsOk (w':World):List DSl→List Value→dw→Prop|[],_,od=>od=[]|a::as,y::ys,od=>if(cC a).isSome then ∃o r,od=o::r∧yq w' a y o∧OutsOk w' as ys r else OutsOk w' as ys od|_::_,[],_=>False
def MR (rd:dw)(v:Value):Prop:=∃(d:Dec) (z:Nat) (row:List DT),rd=[(false,[.s .own d z [row],.any])]∧v = .pointer (some ⟨d.b,d.o,none⟩)
structure RetOk (w:World)(X:List Nat)(w':World)(bx:List Nat)(od rd:dw)(v:Value):Prop where
 val:(∃r,rd=[r]∧VPart r v)∨(rd.length≠1∧VS [] (.tup rd) v)∨MR rd v
 fine:∀r∈od++rd,∀t∈r.2,t.fine=true
 holds:∀r∈od++rd,∀t∈r.2,Holds w' t
 own:∀r∈od++rd,∀t∈r.2,t.isOwn=true→OwnT w' t
 once:∀b,(bn (od++rd)).count b+bx.count b≤1
 new:∀b∈bn (od++rd),(w.heap.size≤b∨b∈X)∧b<w'.heap.size
structure GrewH (X:List Nat)(w w':World):Prop where
 os:w'.os=w.os
 tape:w'.tape=w.tape
 output:w'.output=w.output
 size:w.heap.size≤w'.heap.size
 same:∀b,b<w.heap.size→b∉X→w'.heap[b]?=w.heap[b]?
theorem Grew.x {w w':World}(g:Grew w w')(X:List Nat):GrewH X w w':=⟨g.os,g.tape,g.output,g.size,fun b h _=>g.same b h⟩
theorem GrewH.grew {w w':World}(g:GrewH [] w w'):Grew w w':=⟨g.os,g.tape,g.output,g.size,fun b h=>g.same b h (by simp)⟩
abbrev Sem1:=FuncId→List (Sl Unit Unit)→Option URes
structure Base where
 n:Nat
 K:World→Prop
 stable:∀{w w':World},(∀b,b<n→w'.heap[b]?=w.heap[b]?)→K w→K w'
def Base.ok (B:Base)(w:World)(X:List Nat):Prop:=B.n≤w.heap.size∧(∀b∈X,B.n≤b)∧B.K w
def B0:Base:=⟨0,fun _=>True,fun _ h=>h⟩
theorem B0.ok (w:World)(X:List Nat):B0.ok w X:=⟨Qm _,fun _ _=>Qm _,trivial⟩
theorem Base.ok.at {B:Base}{cx:Cx}{D D':DSt}{d:List (DT×Value)}{tm:Array Value}{w:World}(h:B.ok cx.w0 cx.X)(I:Inv cx D d tm w){X:List Nat}(e:Out cx D' X):B.ok w X:=by
 obtain⟨a,c,f⟩:=h;refine⟨O1 a I.frame.size,fun b hb => ?_,B.stable (fun b hb=>I.frame.same b ⟨OM hb a,fun g=>Nat.not_le_of_lt hb (c b g)⟩) f⟩;rcases(e b hb).1 with h|h
 ·exact O1 a h
 ·exact c b h
def CallsOk (P:Program)(B:Base)(C:Sem1):Prop :=∀(f:FuncId)(as:List (Sl Unit Unit))(rs:URes),C f as=some rs→∀(w:World)(X:List Nat)(ad:List DSl)(a:List Value),B.ok w X→ad.map Sl.er=as→ArgsOk w X ad a → Calls P f a.toArray w fun e w'=>∃v od rd,e = .returned v∧GrewH X w w'∧erR (od++rd)=rs∧OutsOk w' ad a od∧RetOk w X w' (ad.flatMap cv) od rd v
def gP (P:Program)(B:Base)(C:Sem1)(cx:Cx):Prop:=CallsOk P B C∧B.ok cx.w0 cx.X
theorem OutsOk.none {w':World}:∀{ad:List DSl}{b:List Value}{od:dw},(∀a∈ad,a.isHome=false)→OutsOk w' ad b od→od=[]
 |[],_,_,_,h=>h
 |a::as,[],_,_,h=>h.elim
 |a::as,y::ys,od,hh,h=>by unfold OutsOk at h;rw[vt (hh a (by simp))]at h;exact OutsOk.none (fun c d=>hh c (by simp[d])) h
theorem OutsOk.one {w':World}{s:DSl}{y:Value}(hs:(cC s).isSome=true):∀{i:Nat}{ad:List DSl}{b:List Value}{od:dw},OneHome s y i ad b→OutsOk w' ad b od→∃o,od=[o]∧yq w' s y o
 |i,[],_,_,h,_=>by cases i<;>exact h.elim
 |i,a::as,[],_,h,_=>by cases i<;>exact h.elim
 | 0,a::as,v::b,od,h,g=>by obtain⟨rfl,rfl,c⟩:=h;unfold OutsOk at g;rw[hs]at g;obtain⟨o,r,rfl,g1,d⟩:=g;rw[OutsOk.none c d];exact⟨o,rfl,g1⟩
 |i+1,a::as,v::b,od,h,g=>by obtain⟨e,f⟩:=h;unfold OutsOk at g;rw[vt e]at g;exact OutsOk.one hs f g
theorem OneHome.box {s:DSl}{y:Value}:∀{i:Nat}{ad:List DSl}{b:List Value},OneHome s y i ad b→ad.flatMap cv=cv s
 |i,[],_,h=>by cases i<;>exact h.elim
 |i,a::as,[],h=>by cases i<;>exact h.elim
 | 0,a::as,v::b,h=>by obtain⟨rfl,rfl,c⟩:=h;rw[Oy,show as.flatMap cv=[]from L2 c,OC]
 |i+1,a::as,v::b,h=>by rw[Oy,LC h.1,h.2.box];rfl
section
variable  {δ β : Type}
def nar (M:Mk δ β)(n:Nat)(s:Sl δ β):Sl δ β :=
 match s with
 | .im k b ts off=>if n≠0∧(off≠0∨n≠ts.length)∧off+n≤ts.length then .im k (M.at_ (M.ptr b) off 1) ((ts.drop off).take n) 0 else .im k b ts off
 |s=>s
def narL (M:Mk δ β):List Nat→List (Sl δ β)→List (Sl δ β)|n::a,s::ss=>nar M n s::narL M a ss|_,ss=>ss
def argsW (M:Mk δ β)(tab:Tab)(f:FuncId)(D:St δ β)(xs:List Operand):Option (List (Sl δ β)):=(argsOf M D xs).map (narL M ((tab.pw.lookup f).getD []))
end
theorem Mn (n:Nat)(s:DSl):nar mkU n s.er=(nar mkD n s).er:=by
 cases s with
 |im k b ts off =>
  simp only[nar,Sl.er,OF];split
  ·simp only[Sl.er,erL,P5,P6]
  ·rfl
 |_=>rfl
theorem GU:∀(a:List Nat)(ss:List DSl),narL mkU a (ss.map Sl.er)=(narL mkD a ss).map Sl.er
 |[],ss=>by cases ss<;>rfl
 |n::a,[]=>rfl
 |n::a,s::ss=>by simp only[Oq,narL,Mn,GU a ss]
theorem Dp (tab:Tab)(f:FuncId)(D:DSt)(xs:List Operand):argsW mkU tab f (erD D) xs=(argsW mkD tab f D xs).map (List.map Sl.er):=by unfold argsW;rw[vj,O6,O6];congr 1;funext ss;exact GU _ ss
theorem AOk.nar {w:World}{X:List Nat}{a:DSl}{y:Value}(n:Nat)(h:AOk w X a y)(hh:a.isHome=false):AOk w X (Am.nar mkD n a) y∧(Am.nar mkD n a).isHome=false:=by
 cases a with
 |im k b ts off =>
  simp only[Am.nar];split
  ·rename_i hc;have hb:(mkD.at_ (mkD.ptr b) off 1)=(b.1,b.2+off):=by simp[mkD]
   rw[hb];have d:∀u∈(ts.drop off).take n,u∈ts:=fun u g=>Ps (PJ g)
   have p:=h.mem;refine⟨⟨fun D => ?_,⟨fun u g=>p.1 u (d u g),fun u g=>by simp[rootsO]at g,?_⟩,fun D => ?_,iU rfl⟩,rfl⟩
   ·have:=h.val D;exact this
   ·obtain⟨c,e,f,q1,m⟩:=p.2.2;refine⟨c,e,f,q1,fun j u i => ?_⟩;have o:ts[off+j]?=some u:=by
     rw[Pb]at i;split at i
     ·rwa [O5]at i
     ·cases i
    obtain⟨z,q,z2⟩:=m (off+j) u o;exact⟨z,by simpa[Pv]using q,z2⟩
   ·have l:=h.kind D;cases k with
    |own=>exact l
    |far=>exact⟨l.1,fun u g=>l.2 u (d u g)⟩
    |lent v c x =>obtain⟨t,q1,m,r,s⟩:=l;exact⟨t,q1,m,r,fun u g=>s u (d u g)⟩
  ·exact⟨h,hh⟩
 |_=>exact⟨h,hh⟩
theorem ArgsOk.narL {w:World}{X:List Nat}:∀(c:List Nat){ad:List DSl}{d:List Value},ArgsOk w X ad d→(∀s∈ad,s.isHome=false)→ArgsOk w X (Am.narL mkD c ad) d∧∀s∈Am.narL mkD c ad,s.isHome=false
 |[],ad,d,h,hh=>by cases ad<;>exact⟨h,hh⟩
 |n::c,[],d,h,hh=>⟨h,hh⟩
 |n::c,a::as,[],h,hh=>by have:=h.1;simp at this
 |n::c,a::as,y::ys,h,hh=>by
  have f:=h.2.1 0 a y rfl rfl;obtain⟨g,e⟩:=f.nar n (hh a (by simp));have j:ArgsOk w X as ys:=⟨by simpa using h.1,fun i k l q1 m=>h.2.1 (i+1) k l (by simpa using q1) (by simpa using m),fun b=>by have:=h.2.2 b;rw[Oy,OA]at this;omega⟩
  obtain⟨o,p⟩:=ArgsOk.narL c j fun s hs=>hh s (by simp[hs])
  refine⟨o.consN g e,fun s hs => ?_⟩;rcases OB.1 hs with rfl|hs
  ·exact e
  ·exact p s hs
theorem Inv.argsW {cx:Cx}{D:DSt}{P:List (DT×Value)}{a:Act}{w:World}(I:Inv cx D P a.tmps w){X:List Nat}(b:Out cx D X){tab:Tab}{f:FuncId}{xs:List Operand}{ad:List DSl}(e:Am.argsW mkD tab f D xs=some ad):
  ArgsOk w X ad (xs.map a.eval)∧∀s∈ad,s.isHome=false:=by
 unfold Am.argsW at e;rw[N9]at e;obtain⟨c,d,rfl⟩:=e;obtain⟨g,h⟩:=I.argsOf b d;exact g.narL _ h
section
variable  {δ β : Type}
def pU (M:Mk δ β):T δ→Option (β×List (T δ))| .s .own d z [row]=>if row.all T.fine=true then some (M.at_ d 0 z,row)else none|_=>none
def tX (M:Mk δ β)(r:Bool×List (T δ)):Option (β×List (T δ)):=
 match r.1,r.2 with
 |false,[t,.any]=>pU M t
 |_,_=>none
def oy (M:Mk δ β):List (Bool×List (T δ))→Option (Sl δ β)
 |[r]=>match tX M r with|some (b,row)=>some (.box b row)|none=>gA r.1 r.2
 |rs=>some (.tup rs)
def putRet (M:Mk δ β)(D:St δ β)(dst:Option Nat)(rs:List (Bool×List (T δ))):Option (St δ β):=
 match dst with
 |none=>some D
 |some t=>if t<D.length then(oy M rs).map fun s=>aT D (some t) s else none
def boolOf (M:Mk δ β)(D:St δ β)(x:Operand):Option Bool :=
 match opd M.nil D x with
 |some (.one (.v (.bool b)))=>some b
 |_=>none
end
theorem ta {cx:Cx}{D:DSt}{t:DT}(h:t.fine=true):bz cx D t:=by
 cases t with
 |v x=>trivial
 |any=>trivial
 |s k d z r=>cases k<;>first|trivial|cases h
theorem Inv.dropP {cx:Cx}{D:DSt}{P:List (DT×Value)}{tm:Array Value}{w:World}(I:Inv cx D P tm w):Inv cx D [] tm w where
 size:=I.size
 val:=I.val
 mem:=I.mem
 kind:=I.kind
 pend:=fun p a=>by cases a
 once:=fun b=>by have:=I.once b;rw[cq];omega
 bnd:=fun b hb=>I.bnd b (by rw[cq]at hb;omega)
 frame:=I.frame
def PendOf (P:List (DT×Value))(ts:List DT):Prop:=P.map (·.1)=ts∧∀p∈P,VT p.1 p.2
theorem PendOf.cnt {P:List (DT×Value)}{ts:List DT}(h:PendOf P ts)(b:Nat):aO P b=(ts.flatMap ownR).count b:=by unfold aO;rw[←h.1,PY]
theorem eU:∀{ts:List DT},(∀t∈ts,∃y,VT t y)→∃P,PendOf P ts
 |[],_=>⟨[],rfl,fun p hp=>by cases hp⟩
 |t::ts,h=>by
  obtain⟨y,a⟩:=h t (by simp);obtain⟨P,b,c⟩:=eU (ts:=ts) fun u d=>h u (by simp[d])
  refine⟨(t,y)::P,by simp[b],fun p hp => ?_⟩;rcases OB.1 hp with rfl|hp
  ·exact a
  ·exact c p hp
theorem VCells.each {ts:List DT}{ys:List Value}(h:VCells ts ys):∀t∈ts,∃y,VT t y:=by
 intro t b;obtain⟨i,hi⟩:=Og b;have a:i<ys.length:=by
  rw[←h.1];rcases Od i ts.length with g|g
  ·exact g
  ·rw[Ob g]at hi;cases hi
 exact⟨_,h.2 i t ys[i] hi (Oa a)⟩
theorem VPart.each {r:Bool×List DT}{y:Value}(h:VPart r y):∀t∈r.2,∃y,VT t y:=by
 unfold VPart at h;split at h
 ·obtain⟨cs,_,h⟩:=h;exact h.each
 ·obtain⟨t,b,c⟩:=h;intro u a;rw[b,Oc]at a;subst a;exact⟨_,c⟩
theorem ox (rd:dw):bn rd=(rd.flatMap (·.2)).flatMap ownR:=by unfold bn;rw[List.flatMap_assoc]
theorem RetOk.each {w:World}{X:List Nat}{w':World}{bx:List Nat}{od rd:dw}{v:Value}(R:RetOk w X w' bx od rd v):∀t∈rd.flatMap (·.2),∃y,VT t y:=by
 intro t a;obtain⟨r,b,a⟩:=Oj.1 a;rcases R.val with⟨k,c,e⟩|⟨_,h,_,e,j⟩|⟨d,z,row,c,_⟩
 ·rw[c,Oc]at b;subst b;exact e.each t a
 rotate_left
 ·rw[c,Oc]at b;subst b;simp only[OB,PR,Qw]at a;rcases a with rfl|rfl
  ·exact⟨_,rfl⟩
  ·exact⟨.bool true,rfl⟩
 ·obtain⟨i,hi⟩:=Og b;have f:i<h.toList.length:=by
   rw[←e];rcases Od i rd.length with g|g
   ·exact g
   ·rw[Ob g]at hi;cases hi
  exact(j i r h.toList[i] hi (Oa f)).each t a
theorem Inv.world {cx:Cx}{D:DSt}{P P':List (DT×Value)}{tm:Array Value}{w w':World}(I:Inv cx D P tm w){X:List Nat}(m:Out cx D X)(g:GrewH X w w')
  (n:∀p∈P',VT p.1 p.2∧Holds w' p.1∧(p.1.isOwn=true→OwnT w' p.1)∧(p.1.isOwn=false→∀x∈bl p.1,cx.far x))
  (B:∀b,0<aO P' b→aO P' b≤1∧bj D b=0∧cx.may b∧b<w'.heap.size):Inv cx D P' tm w':=by
 have same:∀b,(Cx.mk w X).far b→w'.heap[b]?=w.heap[b]?:=fun b h=>g.same b h.1 h.2
 have j:∀s∈D,∀b∈ownBl s,(Cx.mk w X).far b:=fun s hs b hb=>I.out_own m hs hb
 have i:∀s∈D,∀t∈rootsO s,bz cx D t→∀b∈bl t,(Cx.mk w X).far b:=by
  intro s hs t a d b hb;cases y:t.isOwn with
  |false=>exact I.out_kind m d y b hb
  |true =>
   refine j s hs b ?_;have:b∈ownR t:=by simp[ownR,y,hb]
   cases s with
   |one u=>simp[rootsO]at a;subst a;exact this
   |agg ts=>exact Oj.2 ⟨t,a,this⟩
   |box C ts=>exact PI _ (Oj.2 ⟨t,a,this⟩)
   |tup rs =>simp only[rootsO,Oj]at a;obtain⟨r,G,a⟩:=a;exact Oj.2 ⟨r,G,Oj.2 ⟨t,a,this⟩⟩
   |_=>simp[rootsO]at a
 have l:∀(b:Nat)(ts:List DT)(k:Kd),mP cx D k b ts→(Cx.mk w X).far b∧∀t∈ts,∀x∈bl t,(Cx.mk w X).far x:=by
  intro b ts k d;cases k with
  |own=>exact d.elim
  |far=>exact⟨I.farX m d.1,fun t a x v=>I.farX m (d.2 t a x v)⟩
  |lent h c L =>obtain⟨t',q1,A,H,J⟩:=d;obtain⟨s,g1,F,g3,K,g4⟩:=bU q1;exact⟨j s F _ (g4 A _ H),fun t a x v=>j s F _ (g4 A _ (J t a x v))⟩
 have lies:∀(b:Nat×Nat)(ts:List DT),(Cx.mk w X).far b.1→Lies w b ts→Lies w' b ts:=by rintro b ts hf ⟨c,e,f,q1,A⟩;exact⟨c,e,f,by rw[same _ hf];exact q1,A⟩
 refine⟨I.size,I.val,fun s hs => ?_,I.kind,n,fun b => ?_,fun b hb => ?_,?_⟩
 ·have o:=I.mem s hs;have d:=I.kind s hs;have roots:∀t∈aj s,∀b∈bl t,(Cx.mk w X).far b:=by
   intro t a;cases s with
   |one u=>exact i _ hs t a (d t a)
   |agg ts=>exact i _ hs t a (d t a)
   |box C ts=>exact i _ hs t a (d t a)
   |tup rs=>exact i _ hs t a (d t a)
   |im k b ts off=>exact(l _ _ _ d).2 t a
   |fni f caps =>simp only[aj,Oj]at a;obtain⟨p,n,a⟩:=a;exact fun x v=>I.farX m ((d p n).2 t a x v)
   |_=>simp[aj]at a
  refine⟨fun t a=>(o.1 t a).frame fun b hb _=>same b (roots t a b hb),fun t a y=>(o.2.1 t a y).frame fun b hb _=>same b (i s hs t a (by
   cases s with
   |one u=>exact d t a
   |agg ts=>exact d t a
   |box C ts=>exact d t a
   |tup rs=>exact d t a
   |_=>simp[rootsO]at a) b hb),?_⟩
  cases s with
  |box b ts =>have hf:=j _ hs b.1 (by simp[ownBl]);refine⟨lies b ts hf o.2.2.1,fun c e lo hi hc=>o.2.2.2 c e lo hi ?_⟩;rw[←same _ hf];exact hc
  |im k b ts off=>exact lies b ts (l _ _ _ d).1 o.2.2
  |fni f caps=>exact fun p n=>lies p.1 p.2 (I.farX m (d p n).1) (o.2.2 p n)
  |_=>trivial
 ·have q:=I.once b;rcases O0 (aO P' b)with z|z
  ·omega
  ·have:=B b z;omega
 ·rcases O0 (aO P' b)with z|z
  ·have:=I.bnd b (by omega);exact⟨this.1,OM this.2 g.size⟩
  ·exact(B b z).2.2
 ·have f:=I.frame;exact⟨by rw[g.os,f.os],by rw[g.tape,f.tape],by rw[g.output,f.output],O1 f.size g.size,fun b hb=>by rw[g.same b (OM hb.1 f.size) fun q=>Cx.far_not hb (m b q).1];exact f.same b hb⟩
theorem RetOk.pend {w:World}{X:List Nat}{w':World}{bx:List Nat}{od rd:dw}{v:Value}(R:RetOk w X w' bx od rd v){ts:List DT}(a:∀t∈ts,∃r∈od++rd,t∈r.2){P:List (DT×Value)}(d:PendOf P ts)(cx:Cx):
  ∀p∈P,VT p.1 p.2∧Holds w' p.1∧(p.1.isOwn=true→OwnT w' p.1)∧(p.1.isOwn=false→∀x∈bl p.1,cx.far x):=by
 intro p e;obtain⟨r,b,c⟩:=a p.1 (by rw[←d.1];exact Oo.2 ⟨p,e,rfl⟩);refine⟨d.2 p e,R.holds r b _ c,R.own r b _ c,fun g x f => ?_⟩;rcases rz (R.fine r b _ c)with q|q
 ·rw[g]at q;cases q
 ·rw[q]at f;cases f
theorem Aa:∀{ts:List DT},(∀t∈ts,t.fine=true)→ts.flatMap bl=ts.flatMap ownR
 |[],_=>rfl
 |t::ts,h=>by
  rw[Oy,Oy,Aa fun u a=>h u (by simp[a])];congr 1;have:=h t (by simp);cases t with
  |v x=>simp[ownR,T.isOwn,bl]
  |any=>simp[ownR,T.isOwn,bl]
  |s k d z r=>cases k<;>first|(simp[ownR,T.isOwn];done)|cases this
theorem RetOk.ptr {w:World}{X:List Nat}{w':World}{bx:List Nat}{od rd:dw}{v:Value}(R:RetOk w X w' bx od rd v){r:Bool×List DT}(A:rd=[r]){b:Nat×Nat}{row:List DT}(h:tX mkD r=some (b,row)):
  v = .pointer (some ⟨b.1,b.2,none⟩)∧Lies w' b row∧Free w' b row.length∧(∀u∈row,Holds w' u∧(u.isOwn=true→OwnT w' u)∧u.fine=true)∧∀x,(b.1::row.flatMap ownR).count x=(bn rd).count x:=by
 subst A;obtain⟨g,ts⟩:=r;unfold tX at h;split at h
 case h_2=>cases h
 rename_i t q l;simp only at q l;subst q;subst l;unfold pU at h;split at h
 case h_2=>cases h
 rename_i d z m;split at h
 case isFalse=>cases h
 rename_i hf;cases h;have a:∀u∈row,u.fine=true:=fun u n=>On.1 hf u n
 have hv:v = .pointer (some ⟨d.b,d.o,none⟩):=by
  rcases R.val with⟨P,i,k⟩|⟨i,_⟩|⟨Q,S,m,i,k⟩
  ·cases i;simp only[VPart,Oz,OZ]at k;obtain⟨t,p,_⟩:=k;cases p
  ·exact absurd rfl i
  ·simp only[PA,QR,T.s.injEq,true_and,Qf]at i;obtain⟨rfl,rfl,rfl⟩:=i;exact k
 have B:=R.holds (false,[.s .own d z [row],.any]) (by simp) (.s .own d z [row]) (by simp);have C:=R.own (false,[.s .own d z [row],.any]) (by simp) (.s .own d z [row]) (by simp) rfl;have D:(mkD.at_ d 0 z)=(d.b,d.o):=by simp[mkD]
 rw[D];cases B with
 |s _ _ _ _ q1 U c e f F V G H I =>
  have hz:=G 0 row rfl;cases C with
  |s _ _ _ W Y Z e' lo hi J K p5 L M =>
   refine⟨hv,⟨c,e,f,F,fun j t p => ?_⟩,fun c2 e2 N O hc x i k => ?_,fun u n => ?_,fun x => ?_⟩
   ·have:=H 0 row j t rfl p;simpa using this
   ·rw[J]at hc;cases hc;refine L x i ?_;have:1*z≤d.cap*z:=Pj z (by simpa using K);simp only at k;omega
   ·obtain⟨j,y⟩:=Og n;exact⟨I 0 row j u rfl y,fun _=>M 0 row j u rfl y,a u n⟩
   ·have:bn ([(false,[.s .own d z [row],.any])]:dw)=d.b::row.flatMap ownR:=by simp only[bn,Oy,PZ,OC,ownR,T.isOwn,OH,cl,q1];simp[←Aa a]
    rw[this]
theorem Inv.putRetP {cx:Cx}{D D':DSt}{P:List (DT×Value)}{a:Act}{w w':World}(I:Inv cx D P a.tmps w'){X:List Nat}{bx:List Nat}{od rd:dw}{v:Value}(R:RetOk w X w' bx od rd v)(p:PendOf P (rd.flatMap (·.2))){dst:Option Nat}
  (e:putRet mkD D dst rd=some D'):Inv cx D' [] (a.put dst v).tmps w':=by
 unfold Am.putRet at e;split at e
 ·cases e;exact I.dropP
 ·rename_i t;split at e
  case isFalse=>cases e
  rename_i q;rw[N9]at e;obtain⟨s,hs,rfl⟩:=e;have l:VS D s v∧(∀x,(ownBl s).count x≤(bn rd).count x)∧(∀u∈aj s,Holds w' u∧u.fine=true)∧(∀u∈rootsO s,u.isOwn=true→OwnT w' u)∧C4 w' s∧(∀k b ts off,s ≠ .im k b ts off)∧(∀f caps,s ≠ .fni f caps):=by
   have j:∀r∈rd,∀u∈r.2,Holds w' u∧u.fine=true:=fun r g u c=>⟨R.holds r (by simp[g]) u c,R.fine r (by simp[g]) u c⟩
   have h:∀r∈rd,∀u∈r.2,u.isOwn=true→OwnT w' u:=fun r g u c y=>R.own r (by simp[g]) u c y
   unfold oy at hs;split at hs
   ·rename_i r;split at hs
    ·rename_i b row A;cases hs;obtain⟨B,C,F,m,G⟩:=R.ptr rfl A;exact⟨B,fun x=>Nat.le_of_eq (G x),fun u c=>⟨(m u c).1,(m u c).2.2⟩,fun u c=>(m u c).2.1,⟨C,F⟩,by simp,by simp⟩
    ·rename_i H;obtain⟨J,ts⟩:=r;rcases R.val with⟨r,g,hv⟩|⟨i,_⟩|⟨d,z,row,g,_⟩
     ·cases g;cases J with
      |true =>cases hs;simp only[VPart,OH]at hv;exact⟨hv,fun x=>by simp[ownBl,bn],fun u c=>j _ (OK _) u c,fun u c=>h _ (OK _) u c,trivial,by simp,by simp⟩
      |false =>simp only[VPart,Oz,OZ]at hv;obtain⟨t',rfl,n⟩:=hv;cases hs;exact⟨n,fun x=>by simp[ownBl,bn],fun u c=>j _ (OK _) u c,fun u c=>h _ (OK _) u c,trivial,by simp,by simp⟩
     ·exact absurd rfl i
     ·cases g;cases hs
   ·rename_i i;cases hs;rcases R.val with⟨r,g,hv⟩|⟨_,hv⟩|⟨d,z,row,g,_⟩
    ·exact absurd g (i r)
    ·refine⟨hv,fun x=>OP _,fun u c => ?_,fun u c => ?_,trivial,by simp,by simp⟩
     ·simp only[aj,Oj]at c;obtain⟨r,g,c⟩:=c;exact j r g u c
     ·simp only[rootsO,Oj]at c;obtain⟨r,g,c⟩:=c;exact h r g u c
    ·exact absurd g (i _)
  obtain⟨K,n,o,L,M,N,O⟩:=l;have S:dV cx D s:=by
   have g:∀u∈aj s,bz cx D u:=fun u c=>ta (o u c).2
   cases s with
   |im k b ts off=>exact absurd rfl (N k b ts off)
   |fni f caps=>exact absurd rfl (O f caps)
   |_=>exact g
  refine Inv.put (P:=P) (Q:=[]) (by simpa using I) q K ⟨fun u c=>(o u c).1,L,M⟩ S ?_;intro b;rw[p.cnt, ←ox];exact n b
theorem Inv.putRet {cx:Cx}{D D':DSt}{a:Act}{w w':World}(I:Inv cx D [] a.tmps w)(g:Grew w w'){bx:List Nat}{rd:dw}{v:Value}(R:RetOk w [] w' bx [] rd v){dst:Option Nat}
  (e:putRet mkD D dst rd=some D'):Inv cx D' [] (a.put dst v).tmps w':=by
 obtain⟨P,c⟩:=eU R.each;have h:=I.world (Out.nil cx D) (g.x []) (R.pend (fun t d=>by
  obtain⟨r,i,d⟩:=Oj.1 d;exact⟨r,by simpa using i,d⟩) c cx) (fun b hb=>by
  rw[c.cnt, ←ox]at hb ⊢;have j:=R.once b;rw[OE]at j;obtain⟨k,l⟩:=R.new b (by rw[OE];exact Ot.1 hb);have f:w.heap.size≤b:=k.elim id fun q=>by cases q
  refine⟨by omega,?_,.inl (O1 I.frame.size f),l⟩;rcases O0 (bj D b)with q|q
  ·exact q
  ·have:=(I.bnd b (by omega)).2;omega)
 exact h.putRetP R c e
theorem HN (t:DT):pU mkU t.er=(pU mkD t).map fun p=>((),erL p.2):=by
 cases t with
 |v x=>rfl
 |any=>rfl
 |s k d z rows =>
  rw[aB]
  match rows with
  |[]=>cases k<;>rfl
  |[row]=>
   cases k with
   |own =>simp only[Oq,OL,pU];rw[show(erL row).all T.fine=row.all T.fine from gZ T.fine T.fine nO row];split<;>rfl
   |far=>rfl
   |lent h c a=>rfl
  |r1::b::rs=>cases k<;>rfl
theorem KZ (r:Bool×List DT):tX mkU (r.1,erL r.2)=(tX mkD r).map fun p=>((),erL p.2):=by
 obtain⟨g,ts⟩:=r;cases g with
 |true=>rfl
 |false =>
  match ts with
  |[]=>rfl
  |[t]=>rfl
  |[t,u]=>
   cases u with
   |any=>exact HN t
   |v x=>rfl
   |s k d z r=>simp only[erL,Oq,OL,aB];rfl
  |t::u::v::ts=>cases u<;>rfl
theorem Dz (rd:dw):(oy mkU (erR rd):Option (Sl Unit Unit))=(oy mkD rd:Option DSl).map Sl.er:=by
 match rd with
 |[]=>rfl
 |[r]=>
  simp only[erR,Oq,OL,oy];rw[KZ];cases tX mkD r with
  |none=>exact so r.1 r.2
  |some p=>rfl
 |r::a::rs=>rfl
theorem Bm (D:DSt)(dst:Option Nat)(rd:dw):putRet mkU (erD D) dst (erR rd)=(putRet mkD D dst rd).map erD:=by
 cases dst with
 |none=>rfl
 |some t =>
  simp only[putRet,eG];split
  ·rw[Dz];cases(oy mkD rd:Option DSl)with
   |none=>rfl
   |some s=>simp only[N7,ca]
  ·rfl
theorem Jl (D:DSt)(x:Operand):boolOf mkU (erD D) x=boolOf mkD D x:=by
 simp only[boolOf,cg];cases opd mkD.nil D x with
 |none=>rfl
 |some s =>
  cases s with
  |one u =>
   cases u with
   |s k d z r=>simp[Sl.er,aB]
   |v x=>cases x<;>rfl
   |any=>rfl
  |_=>rfl
theorem Inv.boolOf {cx:Cx}{D:DSt}{P:List (DT×Value)}{a:Act}{w:World}(I:Inv cx D P a.tmps w){x:Operand}{b:Bool}(e:boolOf mkD D x=some b):a.eval x = .bool b:=by
 unfold Am.boolOf at e;split at e
 ·rename_i c h;cases e;exact(I.opd h).val.1
 ·cases e
theorem Inv.lose {cx:Cx}{D:DSt}{tm:Array Value}{w:World}(I:Inv cx D [] tm w){t:Nat}(d:t<D.length):Inv cx (aT D (some t) .any) [] tm w:=by
 have h:=Inv.put (P:=[]) (Q:=[]) (s := .any) (y:=tm.getD t undef) (by simpa using I) d trivial ⟨fun u a=>by simp[aj]at a,fun u a=>by simp[rootsO]at a,trivial⟩
  (fun u a=>by simp[aj]at a) (fun b=>by simp[ownBl])
 have c:t<tm.size:=by rw[←I.size];exact d
 have:tm.setIfInBounds t (tm.getD t undef)=tm:=by
  apply Array.ext
  ·simp
  ·intro i f g;rw[QL];split
   ·rename_i e;subst e;simp[Array.getD,c]
   ·rfl
 rw[this]at h;exact h
section
variable  {δ β : Type}
def T.rootOf:T δ→Option (Nat×Nat)| .s (.lent h c true) _ _ _=>some (h,c)|_=>none
def lV:Nat→List (T δ)→Option (Nat×Nat×Nat)
 |_,[]=>none
 |j,u::us=>match u.rootOf with|some (h,c)=>some (h,c,j)|none=>lV (j+1) us
def eA:List (T δ)→List (T δ)→List (T δ)|t::ts,u::us=>(if t.isOwn=true then t else u)::eA ts us|_,_=>[]
def nw (h:Nat):Nat→List (T δ)→List (T δ)→Bool|_,[],[]=>true|j,t::ts,u::us=>(if t.isOwn=true then decide (u.rootOf=some (h,j))else(u.noLent && !u.isOwn))&&nw h (j+1) ts us|_,_,_=>false
def aggNode (D:St δ β)(ts:List (T δ))(h c j:Nat):Option (Sl δ β×St δ β):=
 match aq D h c with
 |some (.s .own d z rows)=>if((ts.set j .any).all T.noLent=true∧(ts.set j .any).any T.isOwn=false)then(c8 (fun _=>some .any) (St.dead (cK h c) (qHC h c) D) h c []).map fun D'=>(.agg (ts.set j (.s .own d z rows)),D')else none
 |_=>none
def homeTake (D:St δ β)(x:Operand):Option (Sl δ β×St δ β):=
 match x with
 | .tmp t =>
  match D[t]? with
  |some (.box b ts)=>if ts.all T.noLent=true then some (.box b ts,aU t D)else none
  |some (.pb h off)=>
   if off=0 then
    match D[h]? with
    |some (.box b ts)=>if ts.all T.noLent=true then some (.box b ts,aU h D)else none
    |_=>none
   else none
  |some (.al h c st lo len)=>
   match cA D h c st with
   |some (.s .own d z rows)=>if lo=0∧len=rows.length then(c8 (fun _=>some .any) (St.dead (cK h c) (qHC h c) D) h c st).map fun D'=>(.one (.s .own d z rows),D')else none
   |_=>none
  |some (.one u)=>if u.isOwn=true then some (.one u,aU t D)else
   match u.rootOf with
   |some (h,c)=>
    match aq D h c with
    |some (.s .own d z rows)=>(c8 (fun _=>some .any) (St.dead (cK h c) (qHC h c) D) h c []).map fun D'=>(.one (.s .own d z rows),D')
    |_=>none
   |none=>none
  |some (.agg ts)=>if ts.all T.noLent=true then(if ts.any T.isOwn=true then some (.agg ts,aU t D)else none)else
   match lV 0 ts with
   |some (h,c,j)=>
    match D[h]? with
    |some (.box _ a)=>if nw h 0 a ts=true∧a.all T.noLent=true∧(eA a ts).any T.isOwn=true then some (.agg (eA a ts),aU h D)else aggNode D ts h c j
    |_=>aggNode D ts h c j
   |none=>none
  |_=>none
 |_=>none
def ke (rows:List (List (T δ))):T δ→Option (T δ)| .s k d z _=>some (.s k d z rows)|_=>none
def iT:List (T δ)→List (T δ)→List (T δ)|t::ts,u::us=>(if t.isOwn=true then u else t)::iT ts us|_,_=>[]
def nodePut (D:St δ β)(h c:Nat)(u:T δ):Option (St δ β):=
 match aq D h c,u with
 |some (.s _ _ z _),.s .own _ b a=>if b=z then c8 (ke a) (St.dead (cK h c) (li h c) D) h c []else none
 |_,_=>none
def homePut0 (D D1:St δ β)(x:Operand)(o:Bool×List (T δ)):Option (St δ β):=
 match x with
 | .tmp t =>
  match D[t]? with
  |some (.box b _)=>some (aT D1 (some t) (.box b o.2))
  |some (.pb h _)=>
   match D[h]? with
   |some (.box b _)=>some (aT D1 (some h) (.box b o.2))
   |_=>none
  |some (.al h c st _ _)=>
   match cA D h c st,o.2 with
   |some (.s _ _ z _),[.s .own _ f a]=>if f=z then c8 (ke a) (St.dead (cK h c) (li h c) D) h c st else none
   |_,_=>none
  |some (.one u)=>
   match o.2 with
   |[.s .own d z rows]=>if u.isOwn=true then some (aT D1 (some t) (.one (.s .own d z rows)))else
    match u.rootOf with
    |some (h,c)=>nodePut D h c (.s .own d z rows)
    |none=>none
   |_=>none
  |some (.agg ts)=>if ts.all T.noLent=true then some (aT D1 (some t) (.agg o.2))else
   match lV 0 ts with
   |some (h,c,j)=>
    match D[h]? with
    |some (.box b e)=>if nw h 0 e ts=true∧e.all T.noLent=true∧(eA e ts).any T.isOwn=true then some (aT D1 (some h) (.box b (iT e o.2)))else(o.2[j]?).bind (nodePut D h c)
    |_=>(o.2[j]?).bind (nodePut D h c)
   |none=>none
  |_=>none
 |_=>none
end
theorem qU (t:DT):t.er.rootOf=t.rootOf:=by
 cases t with
 |v x=>rfl
 |any=>rfl
 |s k d z r =>
  rw[aB];cases k with
  |lent h c a=>cases a<;>rfl
  |_=>rfl
theorem vn:∀(j:Nat)(us:List DT),lV j (erL us)=lV j us
 |_,[]=>rfl
 |j,u::us=>by
  simp only[erL,Oq,lV,qU];cases u.rootOf with
  |some p=>rfl
  |none=>exact vn (j+1) us
theorem z8:∀(ts us:List DT),erL (eA ts us)=eA (erL ts) (erL us)
 |[],us=>by cases us<;>rfl
 |t::ts,[]=>rfl
 |t::ts,u::us=>by have a:=z8 ts us;simp only[erL,Oq,eA,cR]at a ⊢;rw[a];cases t.isOwn<;>rfl
theorem GT:∀(ts us:List DT),erL (iT ts us)=iT (erL ts) (erL us)
 |[],us=>by cases us<;>rfl
 |t::ts,[]=>rfl
 |t::ts,u::us=>by have a:=GT ts us;simp only[erL,Oq,iT,cR]at a ⊢;rw[a];cases t.isOwn<;>rfl
theorem vo (h:Nat):∀(j:Nat)(ts us:List DT),nw h j (erL ts) (erL us)=nw h j ts us
 |_,[],[]=>rfl
 |_,[],u::us=>rfl
 |_,t::ts,[]=>rfl
 |j,t::ts,u::us=>by have a:=vo h (j+1) ts us;simp only[erL,Oq,nw,cR,qU,ju]at a ⊢;rw[a]
theorem qS (ts:List DT):(erL ts).any T.isOwn=ts.any T.isOwn:=by simp only[erL,QD];congr 1;funext t;exact cR t
theorem kD (ts:List DT):(erL ts).all T.noLent=ts.all T.noLent:=gZ T.noLent T.noLent ju ts
theorem Bn (ts:List DT)(j:Nat)(u:DT):(erL ts).set j u.er=erL (ts.set j u):=by simp[erL,Qc]
theorem Du (D:DSt)(h c:Nat):c8 (fun _=>some .any) (St.dead (cK h c) (qHC h c) (erD D)) h c []=(c8 (fun _=>some .any) (St.dead (cK h c) (qHC h c) D) h c []).map erD:=by rw[show St.dead (cK h c) (qHC h c) (erD D)=erD (St.dead (cK h c) (qHC h c) D)from(kC _ _ D).symm,nP (f:=fun _=>some .any) (fun _=>rfl)]
theorem tw (D:DSt)(ts:List DT)(h c j:Nat):aggNode (erD D) (erL ts) h c j=(aggNode D ts h c j).map fun r=>(r.1.er,erD r.2):=by
 unfold aggNode;rw[jt];cases aq D h c with
 |none=>rfl
 |some n =>
  cases n with
  |v x=>rfl
  |any=>rfl
  |s k d z rows =>
   cases k with
   |own =>
    simp only[N7,aB];rw[show(erL ts).set j (T.any:T Unit)=erL (ts.set j .any)from Bn ts j .any,kD,qS];split
    ·rw[Du,O6,O6];congr 1;funext D';simp only[Function.comp,Sl.er];rw[←Bn,aB]
    ·rfl
   |_=>simp[aB]
theorem yJ (D:DSt)(h c:Nat)(u:DT):nodePut (erD D) h c u.er=(nodePut D h c u).map erD:=by
 unfold nodePut;rw[jt];cases aq D h c with
 |none=>rfl
 |some n =>
  cases n with
  |v x=>rfl
  |any=>rfl
  |s k d z rows =>
   simp only[N7,aB];cases u with
   |v x=>rfl
   |any=>rfl
   |s k' b e a =>
    rw[aB];cases k' with
    |own =>
     simp only;split
     ·rw[show St.dead (cK h c) (li h c) (erD D)=erD (St.dead (cK h c) (li h c) D)from(kC _ _ D).symm,nP (f:=ke a)];intro t;cases t<;>simp[ke,aB,dx,sg]
     ·rfl
    |_=>rfl
theorem FE (D:DSt)(x:Operand):homeTake (erD D) x=(homeTake D x).map fun r=>(r.1.er,erD r.2):=by
 cases x with
 |tmp t =>
  simp only[homeTake,bW];cases D[t]? with
  |none=>rfl
  |some s =>
   cases s with
   |box b ts =>
    simp only[N7,Sl.er];rw[gZ T.noLent T.noLent ju];split
    ·simp only[N7,iC,Sl.er]
    ·rfl
   |pb h off =>
    simp only[N7,Sl.er,bW];split
    ·cases D[h]? with
     |none=>rfl
     |some s =>
      cases s with
      |box b ts =>
       simp only[N7,Sl.er];rw[gZ T.noLent T.noLent ju];split
       ·simp only[N7,iC,Sl.er]
       ·rfl
      |_=>rfl
    ·rfl
   |al h c st lo len =>
    simp only[N7,Sl.er,oJ];cases cA D h c st with
    |none=>rfl
    |some n =>
     cases n with
     |v x=>rfl
     |any=>rfl
     |s k d z rows =>
      cases k with
      |own =>
       simp only[N7,aB,OF];split
       ·rw[show St.dead (cK h c) (qHC h c) (erD D)=erD (St.dead (cK h c) (qHC h c) D)from(kC _ _ D).symm,nP (f:=fun _=>some .any) (fun _=>rfl),O6,O6];congr 1;funext D';simp[Sl.er,aB]
       ·rfl
      |_=>simp[aB]
   |one u =>
    simp only[N7,Sl.er,cR];split
    ·simp only[N7,iC,Sl.er]
    ·rw[qU];cases u.rootOf with
     |none=>rfl
     |some p =>
      obtain⟨h,c⟩:=p;simp only[jt];cases aq D h c with
      |none=>rfl
      |some n =>
       cases n with
       |v x=>rfl
       |any=>rfl
       |s k d z rows =>
        cases k with
        |own =>simp only[N7,aB];rw[Du,O6,O6];congr 1;funext D';simp[Sl.er,aB]
        |_=>simp[aB]
   |agg ts =>
    simp only[N7,Sl.er];rw[kD,qS,vn];split
    ·split
     ·simp only[N7,iC,Sl.er]
     ·rfl
    ·cases lV 0 ts with
     |none=>rfl
     |some p =>
      obtain⟨h,c,j⟩:=p;simp only[bW];cases D[h]? with
      |none=>exact tw D ts h c j
      |some s =>
       cases s with
       |box b a =>
        simp only[N7,Sl.er];rw[vo,kD, ←z8,qS];split
        ·simp only[N7,iC,Sl.er]
        ·exact tw D ts h c j
       |_=>exact tw D ts h c j
   |_=>rfl
 |_=>rfl
theorem FD (D D1:DSt)(x:Operand)(o:Bool×List DT):homePut0 (erD D) (erD D1) x (o.1,erL o.2)=(homePut0 D D1 x o).map erD:=by
 cases x with
 |tmp t =>
  simp only[homePut0,bW];cases D[t]? with
  |none=>rfl
  |some s =>
   cases s with
   |box b ts=>simp only[N7,Sl.er,ca]
   |pb h off =>
    simp only[N7,Sl.er,bW];cases D[h]? with
    |none=>rfl
    |some s=>cases s<;>first|rfl|simp only[N7,Sl.er,ca]
   |al h c st lo len =>
    simp only[N7,Sl.er,oJ];cases cA D h c st with
    |none=>rfl
    |some n =>
     cases n with
     |v x=>rfl
     |any=>rfl
     |s k d z rows =>
      simp only[N7,aB];obtain⟨g,us⟩:=o
      match us with
      |[]=>rfl
      |[.v x]=>rfl
      |[.any]=>rfl
      |[.s .far e i a]=>simp[aB]
      |[.s (.lent _ _ _) e i a]=>simp[aB]
      |[.s .own e i a]=>
       simp only[Oq,OL,aB];split
       ·rw[show St.dead (cK h c) (li h c) (erD D)=erD (St.dead (cK h c) (li h c) D)from(kC _ _ D).symm,nP (f:=ke a)];intro t;cases t<;>simp[ke,aB,dx,sg]
       ·rfl
      |u::u'::us =>
       cases u with
       |v x=>rfl
       |any=>rfl
       |s k d z r=>cases k<;>rfl
   |one u =>
    simp only[N7,Sl.er];obtain⟨g,us⟩:=o
    match us with
    |[]=>rfl
    |[.v x]=>rfl
    |[.any]=>rfl
    |[.s .far e i a]=>simp[aB]
    |[.s (.lent _ _ _) e i a]=>simp[aB]
    |[.s .own e i a]=>
     simp only[Oq,OL,aB,cR,qU];split
     ·simp[aB,ca,Sl.er]
     ·cases u.rootOf with
      |none=>rfl
      |some p =>have:=yJ D p.1 p.2 (.s .own e i a);rw[aB]at this;exact this
    |u::u'::us =>
     cases u with
     |v x=>rfl
     |any=>rfl
     |s k d z r=>cases k<;>rfl
   |agg ts =>
    simp only[N7,Sl.er,kD,vn];split
    ·simp only[N7,Sl.er,ca]
    ·have hb:∀(h c j:Nat),((erL o.2)[j]?).bind (nodePut (erD D) h c)=((o.2[j]?).bind (nodePut D h c)).map erD:=by
      intro h c j;simp only[erL,Ok];cases o.2[j]? with
      |none=>rfl
      |some u=>exact yJ D h c u
     cases lV 0 ts with
     |none=>rfl
     |some p =>
      obtain⟨h,c,j⟩:=p;simp only[bW];cases D[h]? with
      |none=>exact hb h c j
      |some s =>
       cases s with
       |box b l =>
        simp only[N7,Sl.er];rw[vo,kD, ←z8,qS];split
        ·simp only[N7,ca,Sl.er,GT]
        ·exact hb h c j
       |_=>exact hb h c j
   |_=>rfl
 |_=>rfl
theorem m6 {δ β:Type}(t:Nat)(D:St δ β):(aU t D).length=D.length:=by simp[aU,St.dead]
theorem dY {α:Type}{l:List α}{t:Nat}{x:α}(h:l[t]?=some x):t<l.length:=by
 rcases Od t l.length with g|g
 ·exact g
 ·rw[Ob g]at h;cases h
theorem w8 {D:DSt}{t:Nat}{s:DSl}(h:D[t]?=some s)(b:Nat):bj (aU t D) b+(ownBl s).count b=bj D b:=by
 have hs:(cy t D)[t]?=some (s.clean t):=by unfold cy;rw[Ok];unfold St.dead;rw[Ok,h];rfl
 have a:=bG ownBl (.any:DSl) b (cy t D) t _ hs;have d:(ownBl (.any:DSl)).count b=0:=rfl;have e:=yB t D b;rw[xm]at a;have c:aU t D=(cy t D).set t .any:=rfl;rw[c];unfold bj at *;omega
theorem He {tm:Array Value}{t:Nat}(a:t<tm.size):tm.setIfInBounds t (tm.getD t undef)=tm:=by
 apply Array.ext
 ·simp
 ·intro i b c;rw[QL];split
  ·rename_i e;subst e;simp[Array.getD,a]
  ·rfl
theorem Inv.takeSlot {cx:Cx}{D:DSt}{tm:Array Value}{w:World}(I:Inv cx D [] tm w){t:Nat}{s:DSl}{y:Value}(hs:D[t]?=some s)(l:(∃b ts,s = .box b ts)∨(∃u,s = .one u)∨∃ts,s = .agg ts)
  (L:∀u∈rootsO s,u.noLent=true) (hv:∀D,VS D s y):∃P,Inv cx (aU t D) P tm w∧Out cx (aU t D) (ownBl s)∧AOk w (ownBl s) s y∧∀b,(ownBl s).count b≤1:=by
 have a:=N8 hs;have M:=I.mem s a;have m:=I.kind s a;have i:aj s=rootsO s:=by rcases l with⟨b,ts,rfl⟩|⟨u,rfl⟩|⟨ts,rfl⟩<;>rfl
 have n:∀u∈rootsO s,∃y,VT u y:=by
  have B:=I.val t s hs;rcases l with⟨b,ts,rfl⟩|⟨u,rfl⟩|⟨ts,rfl⟩
  ·obtain⟨c,e,f,N,o⟩:=M.2.2.1;intro u g;obtain⟨j,Q⟩:=Og g;obtain⟨y,_,R⟩:=o j u Q;exact⟨y,R⟩
  ·intro v hv;simp[rootsO]at hv;subst hv;exact⟨_,B⟩
  ·obtain⟨cs,_,o⟩:=B;exact o.each
 obtain⟨P,G⟩:=eU n;have C:∀b,((rootsO s).flatMap ownR).count b≤(ownBl s).count b:=by
  intro b;rcases l with⟨H,ts,rfl⟩|⟨u,rfl⟩|⟨ts,rfl⟩
  ·simp only[rootsO,ownBl,Pf];omega
  ·simp[rootsO,ownBl]
  ·simp[rootsO,ownBl]
 have q:∀p∈P,p.1∈rootsO s:=fun p A=>by rw[←G.1];exact Oo.2 ⟨p,A,rfl⟩
 have J:=Inv.take I (cs:=P) hs (fun p A=>⟨q p A,i ▸ q p A,G.2 p A⟩) (fun p A h c S d z r e=>by have:=L _ (q p A);rw[e]at this;cases this) (fun b=>by rw[G.cnt];exact C b) (by rcases l with⟨H,ts,rfl⟩|⟨u,rfl⟩|⟨ts,rfl⟩<;>simp) (by rcases l with⟨H,ts,rfl⟩|⟨u,rfl⟩|⟨ts,rfl⟩<;>simp);rw[OC]at J;have F:∀b,(ownBl s).count b≤1:=fun b=>by have N:=w8 hs b;have o:=I.once b;rw[cq]at o;omega
 have O:Out cx (aU t D) (ownBl s):=fun b hb=>by have W:=Ot.2 hb;have N:=w8 hs b;have o:=I.once b;rw[cq]at o;have X:=cj a hb;exact⟨(I.bnd b (by omega)).1,by omega⟩
 refine⟨P,J,O,⟨hv,M,fun D' => ?_,fun b hb=>⟨hb,(I.bnd b (by have:=cj a hb;omega)).2⟩⟩,F⟩;have K:∀u∈rootsO s,bz cx D u→bz ⟨w,ownBl s⟩ D' u:=by
  intro u g l;have U:=L u g;cases u with
  |v x=>trivial
  |any=>trivial
  |s k d z r =>
   cases k with
   |own=>trivial
   |lent h c S=>cases U
   |far=>exact fun x V=>J.farX O (l x V)
 rcases l with⟨H,ts,rfl⟩|⟨u,rfl⟩|⟨ts,rfl⟩
 ·exact fun u g=>K u g (m u g)
 ·exact fun u g=>K u g (m u g)
 ·exact fun u g=>K u g (m u g)
theorem iJ {ts:List DT}(h:ts.all T.noLent=true):∀u∈ts,u.noLent=true:=fun u a=>On.1 h u a
theorem Dec.addr_sp {d:Dec}(h:d.sp=none):d.addr=if d.nil=true then none else some ⟨d.b,d.o,none⟩:=Dec.addr_none h
theorem Inv.alNode {cx:Cx}{D:DSt}{P:List (DT×Value)}{tm:Array Value}{w:World}(I:Inv cx D P tm w){t h c:Nat}{st:List (Nat×Nat)}{d:Dec}{z:Nat}{rows:List (List DT)}(i:D[t]?=some (.al h c st 0 rows.length))(b:cA D h c st=some (.s .own d z rows)):
  ∃u,aq D h c=some u∧u.isOwn=true∧getN u st=some (.s .own d z rows)∧Holds w (.s .own d z rows)∧OwnT w (.s .own d z rows)∧VT (.s .own d z rows:DT) (tm.getD t undef):=by
 obtain⟨o,p,n,ad,a,j,k,q,e⟩:=I.val t _ i;obtain⟨t0,r,f,g1,l,g3,g4,m,g⟩:=I.node a;simp only[cA,g1,N4]at b;rw[g3]at b;cases b;refine⟨t0,g1,l,g3,m,g,?_⟩;show tm.getD t undef=_;rw[k,Nat.sub_zero,e rfl,Dec.addr_sp g.sp]
theorem Inv.nodeTake {cx:Cx}{D:DSt}{tm:Array Value}{w:World}(I:Inv cx D [] tm w){h c:Nat}{d:Dec}{z:Nat}{rows:List (List DT)}(g1:aq D h c=some (.s .own d z rows)){D1:DSt}
  (e:c8 (fun _=>some .any) (St.dead (cK h c) (qHC h c) D) h c []=some D1):
  ∃P,Inv cx D1 P tm w∧Out cx D1 (bl (.s .own d z rows))∧(∀b,(bl (.s .own d z rows)).count b≤1)∧(∀b∈bl (.s .own d z rows),b<w.heap.size)∧Holds w (.s .own d z rows)∧OwnT w (.s .own d z rows):=by
 have y:=I.dead (cK h c) (qHC h c);have i:=gd (p:=cK h c) (q:=qHC h c) g1 rfl;unfold c8 at e;rw[i,N4]at e;simp only[fg,N4]at e;obtain⟨A,B,f,o,j,r⟩:=bU g1;have k:=I.mem A f;have u:=k.1 _ o;have v:=k.2.1 _ j rfl;have g:=I.bl_once g1 rfl;have l:∀b∈bl (.s .own d z rows),0<bj D b:=fun b hb=>cj f (r rfl b hb)
 have m:∀b∈bl (.s .own d z rows),b<w.heap.size:=fun b hb=>(I.bnd b (by have:=l b hb;omega)).2
 have a:ownR (.s .own d z rows:DT)=bl (.s .own d z rows):=by simp[ownR,T.isOwn]
 have t:=y.upd (P':=[(.s .own d z rows,.slice d.addr rows.length d.cap)]) (w':=w) e
  {at_:=i,own:=rfl,holds := .any,ownT:=fun h=>(by cases h),kind := .inr rfl,val:=fun _ h=>h.one,
   cnt:=fun b=>by
    rw[jr,cq,a];have C:(ownR (.any:DT)).count b=0:=rfl;split
    ·omega
    ·have:=g b;omega,
   new:=fun b hb n=>by exfalso;rw[jr,cq,a]at n;have C:(ownR (.any:DT)).count b=0:=rfl;have:=m b (Ot.1 (by omega));omega,
   hides:=fun s hs=>(px s hs).1,
   speak:=fun s hs st hsp=>absurd hsp ((px s hs).2 st),
   size:=OP _,same:=fun _ _ _=>rfl,os:=rfl,tape:=rfl,output:=rfl,
   pend:=fun p x=>by rw[Oc]at x;subst x;exact⟨rfl,u,fun _=>v,fun h=>by cases h⟩ }
 refine⟨_,t,fun b hb => ?_,g,m,u,v⟩;have q1:=t.once b;rw[jr,cq,a]at q1;have F:=Ot.2 hb;exact⟨(t.bnd b (by rw[jr,cq,a];omega)).1,by omega⟩
theorem Inv.root {cx:Cx}{D:DSt}{u:DT}{h c:Nat}{y:Value}(b:u.rootOf=some (h,c))(e:bz cx D u)(hv:VT u y):∃d z rows,aq D h c=some (.s .own d z rows)∧y = .slice d.addr rows.length d.cap:=by
 cases u with
 |v x=>cases b
 |any=>cases b
 |s k d z r =>
  cases k with
  |lent j l f =>
   cases f with
   |false=>cases b
   |true =>cases b;obtain⟨t,g1,m,g3,g4⟩:=e;obtain⟨g,a,rfl,i⟩:=g4 rfl;exact⟨d,g,a,g1,by rw[i];exact hv⟩
  |_=>cases b
theorem rQ:∀{j:Nat}{us:List DT}{h c i:Nat},lV j us=some (h,c,i)→∃u,j≤i∧us[i-j]?=some u∧u.rootOf=some (h,c)
 |j,[],h,c,i,e=>by cases e
 |j,u::us,h,c,i,e=>by
  unfold lV at e;cases a:u.rootOf with
  |some p =>rw[a]at e;cases e;exact⟨u,OP _,by simp,a⟩
  |none =>rw[a]at e;obtain⟨v,f,b,d⟩:=rQ e;refine⟨v,by omega,?_,d⟩;rw[show i-j=(i-(j+1))+1 by omega];simpa using b
theorem zp {h:Nat}:∀{j:Nat}{ts us:List DT},nw h j ts us=true→ts.length=us.length∧∀(i:Nat)(t u:DT),ts[i]?=some t→us[i]?=some u →
  (t.isOwn=true→u.rootOf=some (h,j+i))∧(t.isOwn=false→u.noLent=true∧u.isOwn=false)
 |_,[],[],_=>⟨rfl,fun i t u h=>by simp at h⟩
 |_,[],u::us,e=>by cases e
 |_,t::ts,[],e=>by cases e
 |j,t::ts,u::us,e=>by
  unfold nw at e;rw[Ow]at e;obtain⟨a,d⟩:=e;obtain⟨f,g⟩:=zp d;refine⟨by simp[f],fun i t' u' hi b => ?_⟩;cases i with
  |zero =>
   simp at hi b;subst hi;subst b;split at a
   ·rename_i c;exact⟨fun _=>by simpa using a,fun q=>by rw[c]at q;cases q⟩
   ·rename_i c;refine⟨fun q=>absurd q c,fun _ => ?_⟩;rw[Ow]at a;exact⟨a.1,by simpa using a.2⟩
  |succ i =>have:=g i t' u' (by simpa using hi) (by simpa using b);rw[show j+(i+1)=j+1+i by omega];exact this
theorem x7:∀{ts us:List DT}{i:Nat}{x:DT},(eA ts us)[i]?=some x→∃t u,ts[i]?=some t∧us[i]?=some u∧x=if t.isOwn=true then t else u
 |[],us,i,x,e=>by cases us<;>simp[eA]at e
 |t::ts,[],i,x,e=>by simp[eA]at e
 |t::ts,u::us,0,x,e=>by simp only[eA,O2,OJ]at e;exact⟨t,u,rfl,rfl,e.symm⟩
 |t::ts,u::us,i+1,x,e=>by simp only[eA,PX]at e;obtain⟨t',u',a,b,c⟩:=x7 e;exact⟨t',u',by simpa using a,by simpa using b,c⟩
theorem Eo:∀{ts us:List DT},ts.length=us.length→(eA ts us).length=ts.length
 |[],[],_=>rfl
 |[],u::us,h=>by simp at h
 |t::ts,[],h=>by simp at h
 |t::ts,u::us,h=>by simp only[eA,OI];rw[Eo (by simpa using h)]
theorem Ep:∀{ts us:List DT},(∀(i:Nat)(t u:DT),ts[i]?=some t→us[i]?=some u→t.isOwn=false→u.isOwn=false)→∀b,((eA ts us).flatMap ownR).count b≤(ts.flatMap ownR).count b
 |[],us,_,b=>by cases us<;>simp[eA]
 |t::ts,[],_,b=>by simp[eA]
 |t::ts,u::us,h,b=>by
  have c:=Ep (ts:=ts) (us:=us) (fun i t u d e=>h (i+1) t u (by simpa using d) (by simpa using e)) b;simp only[eA,Oy,OA];cases a:t.isOwn with
  |true=>rw[N5 rfl];omega
  |false =>rw[Oh Pm,eB (h 0 t u rfl rfl a),eB a];simpa using c
theorem x8:∀{ts us:List DT}{i:Nat}{x:DT},(iT ts us)[i]?=some x→∃t u,ts[i]?=some t∧us[i]?=some u∧x=if t.isOwn=true then u else t
 |[],us,i,x,e=>by cases us<;>simp[iT]at e
 |t::ts,[],i,x,e=>by simp[iT]at e
 |t::ts,u::us,0,x,e=>by simp only[iT,O2,OJ]at e;exact⟨t,u,rfl,rfl,e.symm⟩
 |t::ts,u::us,i+1,x,e=>by simp only[iT,PX]at e;obtain⟨t',u',a,b,c⟩:=x8 e;exact⟨t',u',by simpa using a,by simpa using b,c⟩
theorem Eq:∀{ts us:List DT}(b:Nat),((iT ts us).flatMap ownR).count b≤(us.flatMap ownR).count b
 |[],us,b=>by cases us<;>simp[iT]
 |t::ts,[],b=>by simp[iT]
 |t::ts,u::us,b=>by
  have c:=Eq (ts:=ts) (us:=us) b;simp only[iT,Oy,OA];cases a:t.isOwn with
  |true=>rw[N5 rfl];omega
  |false=>rw[Oh Pm,eB a];simp;omega
theorem yO {u:DT}(h:u.noLent=true):u.isOwn=true∨bl u=[]∨∃d z r,u = .s .far d z r:=by
 cases u with
 |v x=>exact .inr (.inl (by simp[bl]))
 |any=>exact .inr (.inl (by simp[bl]))
 |s k d z r=>cases k<;>first|exact .inl rfl|exact .inr (.inr ⟨_,_,_,rfl⟩)|cases h
theorem Bb {cx:Cx}{D D':DSt}{w:World}{X:List Nat}{u:DT}(a:u.noLent=true)(e:bz cx D u)(hf:∀b,cx.far b→(Cx.mk w X).far b):bz ⟨w,X⟩ D' u:=by
 cases u with
 |v x=>trivial
 |any=>trivial
 |s k d z r =>
  cases k with
  |own=>trivial
  |lent h c g=>cases a
  |far=>exact fun x f=>hf x (e x f)
theorem Inv.aggNode {cx:Cx}{D:DSt}{a:Act}{w:World}(I:Inv cx D [] a.tmps w){t:Nat}{ts:List DT}(hD:D[t]?=some (.agg ts)){h c j:Nat}{u:DT}(hj:ts[j]?=some u)(O:u.rootOf=some (h,c)){s:DSl}{D1:DSt}
  (e:Am.aggNode D ts h c j=some (s,D1)):∃d z rows,aq D h c=some (.s .own d z rows)∧s = .agg (ts.set j (.s .own d z rows))∧ownBl s=bl (.s .own d z rows) ∧
   ∃P,Inv cx D1 P a.tmps w∧Out cx D1 (ownBl s)∧AOk w (ownBl s) s (a.eval (.tmp t))∧(∀b,(ownBl s).count b≤1)∧(cC s).isSome=true∧OwnT w (.s .own d z rows):=by
 obtain⟨cs,Q,m⟩:=I.val t _ hD;have o:=N8 hD;have R:=I.mem _ o;have C:=I.kind _ o;have n:j<ts.length:=dY hj;have p:j<cs.toList.length:=by rw[←m.1];exact n
 have G:=m.2 j u _ hj (Oa p);obtain⟨d,z,rows,g1,S⟩:=Inv.root O (C u (N8 hj)) G;unfold Am.aggNode at e;rw[g1]at e;simp only at e;split at e
 case isFalse=>cases e
 rename_i k;rw[N9]at e;obtain⟨D',U,V⟩:=e;cases V;obtain⟨P,K,L,W,X,Y,M⟩:=I.nodeTake g1 U;have r:∀v∈ts.set j .any,v.isOwn=false:=by have:=k.2;rw[Qj]at this;intro v hv;have:=this v hv;simpa using this
 have F:∀b,((ts.set j (.s .own d z rows)).flatMap ownR).count b=(bl (.s .own d z rows)).count b:=by
  intro b;have q:=bG ownR (.s .own d z rows:DT) b ts j u hj;have B:=bG ownR (.any:DT) b ts j u hj;have Z:((ts.set j .any).flatMap ownR)=[]:=by rw[Ox];exact fun v hv=>eB (r v hv)
  have q4:(ownR (.any:DT)).count b=0:=rfl;have q5:ownR (.s .own d z rows:DT)=bl (.s .own d z rows):=by simp[ownR,T.isOwn]
  rw[Z]at B;rw[q5]at q;simp only[Q4]at B;omega
 have g:∀(i:Nat)(v:DT),(ts.set j (.s .own d z rows))[i]?=some v→(i=j∧v = .s .own d z rows)∨(i≠j∧ts[i]?=some v∧v∈ts.set j .any):=by
  intro i v hi;by_cases q:i=j
  ·subst q;rw[Oi n]at hi;cases hi;exact .inl ⟨rfl,rfl⟩
  ·rw[Ol (fun H=>q H.symm)]at hi;exact .inr ⟨q,hi,N8 (i:=i) (by rw[Ol (fun H=>q H.symm)];exact hi)⟩
 have Q7:∀b,b∈ownBl (.agg (ts.set j (.s .own d z rows)))↔b∈bl (.s .own d z rows):=fun b=>by rw[←Ot, ←Ot];show 0<((ts.set j (.s .own d z rows)).flatMap ownR).count b↔_;rw[F]
 have f:ownBl (.agg (ts.set j (.s .own d z rows)))=bl (.s .own d z rows):=by
  show(ts.set j (.s .own d z rows)).flatMap ownR=_;have J:∀(l:List DT)(i:Nat),i<l.length→(∀v∈l.set i .any,v.isOwn=false)→(l.set i (.s .own d z rows)).flatMap ownR=bl (.s .own d z rows):=by
   intro l;induction l with
   |nil=>intro i hi;simp at hi
   |cons x l ih =>
    intro i hi hv;cases i with
    |zero =>
     simp only[List.set_cons_zero,Oy];have:l.flatMap ownR=[]:=by rw[Ox];exact fun v y=>eB (hv v (by simp[y]))
     rw[this];simp[ownR,T.isOwn]
    |succ i =>simp only[List.set_cons_succ,Oy];rw[eB (hv x (by simp)),ih i (by simpa using hi) (fun v y=>hv v (by simp[y]))];rfl
  exact J ts j n r
 refine⟨d,z,rows,g1,rfl,f,P,K,?_,?_,?_,?_,M⟩
 ·rw[f];exact L
 ·rw[f];refine⟨fun _=>⟨cs,Q,⟨by rw[Qe];exact m.1,fun i v y' hi A => ?_⟩⟩,⟨fun v hv => ?_,fun v hv N => ?_,trivial⟩,fun D' v hv => ?_,fun b hb => ?_⟩
  ·rcases g i v hi with⟨rfl,rfl⟩|⟨_,q,_⟩
   ·rw[Oa p]at A;cases A;exact S
   ·exact m.2 i v y' q A
  ·obtain⟨i,hi⟩:=Og hv;rcases g i v hi with⟨rfl,rfl⟩|⟨_,q,_⟩
   ·exact Y
   ·exact R.1 v (N8 q)
  ·obtain⟨i,hi⟩:=Og hv;rcases g i v hi with⟨rfl,rfl⟩|⟨_,q,B⟩
   ·exact M
   ·rw[r v B]at N;cases N
  ·obtain⟨i,hi⟩:=Og hv;rcases g i v hi with⟨rfl,rfl⟩|⟨_,q,B⟩
   ·trivial
   ·exact Bb (iJ k.1 v B) (C v (N8 q)) fun b hb=>K.farX L hb
  ·rw[f]at hb;exact⟨hb,X b hb⟩
 ·intro b;rw[f];exact W b
 ·simp only[cC];rw[N5]
  ·rfl
  ·rw[Pt];exact⟨_,List.mem_set n _,rfl⟩
theorem Inv.boxAgg {cx:Cx}{D:DSt}{a:Act}{w:World}(I:Inv cx D [] a.tmps w){t h:Nat}{ts c:List DT}{b:Nat×Nat}(hD:D[t]?=some (.agg ts))(hb:D[h]?=some (.box b c))(V:nw h 0 c ts=true)(W:c.all T.noLent=true):
  ∃P,Inv cx (aU h D) P a.tmps w∧Out cx (aU h D) (ownBl (.agg (eA c ts)))∧AOk w (ownBl (.agg (eA c ts))) (.agg (eA c ts)) (a.eval (.tmp t))∧(∀x,(ownBl (.agg (eA c ts))).count x≤1) ∧
   (Out cx (aU h D) (ownBl (.box b c))∧b.1∉ownBl (.agg (eA c ts))∧b.1<w.heap.size)∧∀cs:Array Value,a.eval (.tmp t)= .agg cs→∀(i:Nat)(x:DT)(y:Value),c[i]?=some x→x.isOwn=true→cs.toList[i]?=some y→VT x y:=by
 obtain⟨cs,O,F⟩:=I.val t _ hD;have p:=N8 hD;have X:=I.mem _ p;have G:=I.kind _ p;obtain⟨P,Q,R,J,S⟩:=I.takeSlot hb (.inl ⟨b,c,rfl⟩) (iJ W) (y := .pointer (some ⟨b.1,b.2,none⟩)) (fun _=>rfl);obtain⟨l,e⟩:=zp V;have m:=Ep (ts:=c) (us:=ts) (fun i t u q1 q2 j=>((e i t u q1 q2).2 j).2);have A:∀x∈ownBl (.agg (eA c ts)),x∈ownBl (.box b c):=fun x f=>by have q:=m x;have q2:=Ot.2 (show x∈(eA c ts).flatMap ownR from f);exact PI _ (Ot.1 (by omega))
 have U:Out cx (aU h D) (ownBl (.agg (eA c ts))):=fun x f=>R x (A x f)
 have B:∀(i:Nat)(x:DT)(y:Value),c[i]?=some x→x.isOwn=true→cs.toList[i]?=some y→VT x y:=by
  intro i x y hi g o;have K:i<ts.length:=by rw[←l];exact dY hi
  have hu:=Oa K;have L:=(e i x _ hi hu).1 g;obtain⟨d,z,rows,g1,Y⟩:=Inv.root L (G _ (N8 hu)) (F.2 i _ y hu o);have:aq D h (0+i)=some x:=by rw[Qd];unfold aq;rw[hb];exact hi
  rw[this]at g1;cases g1;exact Y
 have n:∀x∈eA c ts,(x∈c∧x.isOwn=true)∨(x∈ts∧x.noLent=true∧x.isOwn=false):=by
  intro x f;obtain⟨i,hi⟩:=Og f;obtain⟨t',u',q1,q2,j⟩:=x7 hi;cases g:t'.isOwn with
  |true=>rw[g,N5 rfl]at j;subst j;exact .inl ⟨N8 q1,g⟩
  |false =>rw[g,Oh Pm]at j;subst j;have:=(e i t' x q1 q2).2 g;exact .inr ⟨N8 q2,this.1,this.2⟩
 have H:∀x,(ownBl (.agg (eA c ts))).count x≤1:=fun x=>by
  have q:=m x;have q2:=S x;have j:(ownBl (.box b c)).count x=(if b.1=x then 1 else 0)+(c.flatMap ownR).count x:=by simp only[ownBl,Pf,PK];omega
  show((eA c ts).flatMap ownR).count x≤1;omega
 have M:b.1∉ownBl (.agg (eA c ts)):=fun f=>by
  have q:=m b.1;have q1:=Ot.2 (show b.1∈(eA c ts).flatMap ownR from f);have q2:=S b.1;have j:(ownBl (.box b c)).count b.1=1+(c.flatMap ownR).count b.1:=by simp only[ownBl,QE];omega
  omega
 refine⟨P,Q,U,⟨fun _=>⟨cs,O,⟨by rw[Eo l,l];exact F.1,fun i x y hi o => ?_⟩⟩,⟨fun x f => ?_,fun x f g => ?_,trivial⟩,fun D' x f => ?_,fun x f=>⟨f,(J.own x (A x f)).2⟩⟩,H,⟨R,M,(J.own b.1 (by simp[ownBl])).2⟩,fun N C => ?_⟩
 ·obtain⟨t',u',q1,q2,j⟩:=x7 hi;cases g:t'.isOwn with
  |true=>rw[g,N5 rfl]at j;subst j;exact B i x y q1 g o
  |false=>rw[g,Oh Pm]at j;subst j;exact F.2 i x y q2 o
 ·rcases n x f with⟨q,_⟩|⟨q,_⟩
  ·exact J.mem.1 x q
  ·exact X.1 x q
 ·rcases n x f with⟨q,_⟩|⟨q,_,q2⟩
  ·exact J.mem.2.1 x q g
  ·rw[q2]at g;cases g
 ·rcases n x f with⟨q,q2⟩|⟨q,q2,_⟩
  ·cases x with
   |v y=>trivial
   |any=>trivial
   |s k d z r=>cases k<;>first|trivial|cases q2
  ·exact Bb q2 (G x q) fun b hb=>Q.farX U hb
 ·have:N=cs:=by have hh:a.eval (.tmp t)= .agg cs:=O;rw[hh]at C;cases C;rfl
  subst this;exact B
theorem Inv.homeTake {cx:Cx}{D:DSt}{a:Act}{w:World}(I:Inv cx D [] a.tmps w){x:Operand}{s:DSl}{D1:DSt}(e:Am.homeTake D x=some (s,D1)):
  ∃P,Inv cx D1 P a.tmps w∧Out cx D1 (ownBl s)∧AOk w (ownBl s) s (a.eval x)∧(∀b,(ownBl s).count b≤1)∧(cC s).isSome=true:=by
 cases x with
 |tmp t =>
  simp only[Am.homeTake]at e;split at e
  ·rename_i b ts hD;split at e
   case isFalse=>cases e
   rename_i q;cases e;obtain⟨P,f,g,l,n⟩:=I.takeSlot hD (.inl ⟨b,ts,rfl⟩) (iJ q) (fun _=>I.val t _ hD);exact⟨P,f,g,l,n,rfl⟩
  ·rename_i h off hD;split at e
   case isFalse=>cases e
   rename_i A;subst A;split at e
   case h_2=>cases e
   rename_i b ts hb;split at e
   case isFalse=>cases e
   rename_i q;cases e;obtain⟨b',ts',B,S⟩:=I.val t _ hD;rw[hb]at B;cases B;obtain⟨P,f,g,l,n⟩:=I.takeSlot hb (.inl ⟨b,ts,rfl⟩) (iJ q) (y:=a.eval (.tmp t)) (fun _=>S);exact⟨P,f,g,l,n,rfl⟩
  ·rename_i h c st lo len hD;split at e
   case h_2=>cases e
   rename_i d z rows U;split at e
   case isFalse=>cases e
   rename_i hc;obtain⟨rfl,rfl⟩:=hc;rw[N9]at e;obtain⟨D2,H,e⟩:=e;cases e;have J:Am.cellsTake mkD D (.tmp t)=some (false,[.s .own d z rows],D1):=by simp only[Am.cellsTake,hD,U];rw[N5 (Or.inl trivial),H];simp[mkD]
   obtain⟨ys,P,f,g,l⟩:=I.cellsTake J;have K:ys=[a.eval (.tmp t)]:=by simpa[bZ]using l
   subst K;have i:∀b,(ownR (.s .own d z rows:DT)).count b≤aO P b:=fun b=>by simpa using g.cnt b
   have V:Out cx D1 (ownBl (.one (.s .own d z rows))):=fun b hb=>by have q1:=Ot.2 (show b∈ownR (.s .own d z rows:DT)from hb);have p:=i b;have C:=f.once b;exact⟨(f.bnd b (by omega)).1,by omega⟩
   refine⟨P,f,V,⟨fun _=>g.v.2 0 _ _ rfl rfl,⟨fun u F=>g.holds u F,fun u F G=>g.own u F G,trivial⟩,fun D' u F => ?_,fun b hb=>⟨hb,?_⟩⟩,fun b => ?_,rfl⟩
   ·rw[Oc.1 F];trivial
   ·have q1:=Ot.2 (show b∈ownR (.s .own d z rows:DT)from hb);have p:=i b;exact(f.bnd b (by omega)).2
   ·have p:=i b;have C:=f.once b;show(ownR (.s .own d z rows:DT)).count b≤1;omega
  ·rename_i u hD;split at e
   case isFalse =>
    split at e
    case h_2=>cases e
    rename_i h c L;split at e
    case h_2=>cases e
    rename_i d z rows hc;rw[N9]at e;obtain⟨D',W,X⟩:=e;cases X;obtain⟨P,Y,Z,n3,n4,n5,n6⟩:=I.nodeTake hc W;obtain⟨d',z',M,g1,g2⟩:=Inv.root L (I.kind _ (N8 hD) u (by simp[aj])) (I.val t _ hD);rw[hc]at g1;cases g1;have o:ownBl (.one (.s .own d z rows):DSl)=bl (.s .own d z rows):=by simp[ownBl,ownR,T.isOwn]
    refine⟨P,Y,by rw[o];exact Z,⟨fun _=>g2,⟨fun v hv => ?_,fun v hv _ => ?_,trivial⟩,fun D' v hv => ?_,fun b hb => ?_⟩,fun b=>by rw[o];exact n3 b,rfl⟩
    ·rw[Oc.1 hv];exact n5
    ·rw[Oc.1 hv];exact n6
    ·rw[Oc.1 hv];trivial
    ·exact⟨hb,n4 b (o ▸ hb)⟩
   rename_i G;cases e;obtain⟨P,f,g,l,n⟩:=I.takeSlot hD (.inr (.inl ⟨u,rfl⟩)) (fun v hv=>by
    simp[rootsO]at hv;subst hv;cases v with
    |v x=>rfl
    |any=>rfl
    |s k d z r=>cases k<;>first|rfl|cases G) (y:=a.eval (.tmp t)) (fun _=>I.val t _ hD)
   exact⟨P,f,g,l,n,by simp[cC,G]⟩
  ·rename_i ts hD;split at e
   case isFalse =>
    split at e
    case h_2=>cases e
    rename_i h c j N;obtain⟨u,_,hj,L⟩:=rQ N;have m:Am.aggNode D ts h c j=some (s,D1)→∃P,Inv cx D1 P a.tmps w∧Out cx D1 (ownBl s)∧AOk w (ownBl s) s (a.eval (.tmp t))∧(∀b,(ownBl s).count b≤1)∧(cC s).isSome=true:=fun e=>by obtain⟨d,z,rows,_,_,_,P,q1,p,C,O,R,_⟩:=I.aggNode hD (by simpa using hj) L e;exact⟨P,q1,p,C,O,R⟩
    split at e
    case h_2=>exact m e
    rename_i b bs hb;split at e
    case isFalse=>exact m e
    rename_i hc;cases e;obtain⟨P,q1,p,C,O,R,_⟩:=I.boxAgg hD hb hc.1 hc.2.1;exact⟨P,q1,p,C,O,by simp only[cC];rw[N5 hc.2.2];rfl⟩
   rename_i q;split at e
   case isFalse=>cases e
   rename_i Q;cases e;obtain⟨P,f,g,l,n⟩:=I.takeSlot hD (.inr (.inr ⟨ts,rfl⟩)) (iJ q) (y:=a.eval (.tmp t)) (fun _=>I.val t _ hD);exact⟨P,f,g,l,n,by simp only[cC];rw[N5 Q];rfl⟩
  ·cases e
 |_=>cases e
theorem Inv.back {cx:Cx}{D1:DSt}{P:List (DT×Value)}{tm:Array Value}{w w':World}(I:Inv cx D1 P tm w){X bx:List Nat}(i:Out cx D1 X)(g:GrewH X w w'){o:Bool×List DT}{rd:dw}{v:Value}(R:RetOk w X w' bx [o] rd v)
  {f h:List (DT×Value)} (c:PendOf f o.2) (d:PendOf h (rd.flatMap (·.2))):Inv cx D1 (f++h) tm w'∧∀b,aO (f++h) b=(bn ([o]++rd)).count b:=by
 have a:∀b,aO (f++h) b=(bn ([o]++rd)).count b:=by intro b;rw[gF,c.cnt,d.cnt,kM,OA,ox rd];simp[bn]
 refine⟨I.world i g (fun p hp => ?_) (fun b hb => ?_),a⟩
 ·rcases OD.1 hp with hp|hp
  ·exact R.pend (fun t e=>⟨o,by simp,e⟩) c cx p hp
  ·exact R.pend (fun t e=>by obtain⟨r,k,e⟩:=Oj.1 e;exact⟨r,by simp[k],e⟩) d cx p hp
 ·rw[a]at hb ⊢;have l:=R.once b;obtain⟨n1,j⟩:=R.new b (Ot.1 hb);rcases n1 with n1|n1
  ·refine⟨by omega,?_,.inl (O1 I.frame.size n1),j⟩;rcases O0 (bj D1 b)with q|q
   ·exact q
   ·have:=(I.bnd b (by omega)).2;omega
  ·exact⟨by omega,(i b n1).2,(i b n1).1,j⟩
theorem Inv.putBack {cx:Cx}{D1:DSt}{P:List (DT×Value)}{tm:Array Value}{w w':World}(D:Inv cx D1 P tm w){X bx:List Nat}(r:Out cx D1 X)(g:GrewH X w w'){o:Bool×List DT}{rd:dw}{v:Value}(R:RetOk w X w' bx [o] rd v)
  {t:Nat} (p:t<D1.length) {s':DSl} (hv:VS D1 s' (tm.getD t undef)) (F:aj s'=o.2) (d:rootsO s'=o.2) (q:C4 w' s') (s:(∃b,s' = .box b o.2∧bx=[b.1]∧b.1∈X∧b.1<w.heap.size)∨(∃u,s' = .one u)∨∃ts,s' = .agg ts)
  (f:∀u∈o.2,∃y,VT u y):∃i,PendOf i (rd.flatMap (·.2))∧Inv cx (aT D1 (some t) s') i tm w':=by
 obtain⟨z,c⟩:=eU f;obtain⟨i,k⟩:=eU R.each;obtain⟨A,hc⟩:=D.back r g R c k;have B:t<tm.size:=by rw[←D.size];exact p
 have a:MemS w' s':=⟨fun u l=>R.holds o (by simp) u (F ▸ l),fun u l H=>R.own o (by simp) u (d ▸ l) H,q⟩
 have j:∀u∈aj s',bz cx D1 u:=fun u l=>ta (R.fine o (by simp) u (F ▸ l))
 refine⟨i,k,?_⟩;rw[←He (tm:=tm) (t:=t) B];rcases s with⟨b,rfl,C,m,n⟩|⟨u,rfl⟩|⟨ts,rfl⟩
 ·refine Inv.putF (P:=z) (Q:=i) A (fun x=>if x=b.1 then 1 else 0) (fun x q => ?_) p hv a j (fun x => ?_)
  ·split at q
   ·rename_i e;subst e;have G:=R.once b.1;rw[C]at G;simp only[QE]at G;exact⟨by simp,by rw[hc,(r _ m).2];omega,(r _ m).1,OM n g.size⟩
   ·cases q
  ·rw[c.cnt];simp only[ownBl,Pf];by_cases e:x=b.1
   ·subst e;simp
   ·have:(b.1==x)=false:=by simp;exact fun h=>e h.symm
    simp[this,e]
 ·refine Inv.put (P:=z) (Q:=i) A p hv a j (fun x => ?_);rw[c.cnt, ←d];simp[ownBl,rootsO]
 ·refine Inv.put (P:=z) (Q:=i) A p hv a j (fun x => ?_);rw[c.cnt, ←d];exact OP _
theorem Inv.nodeBack {cx:Cx}{D:DSt}{tm:Array Value}{w w':World}(I:Inv cx D [] tm w){h c:Nat}{st:List (Nat×Nat)}{u:DT}{d:Dec}{z:Nat}{rows:List (List DT)}(V:aq D h c=some u)(W:u.isOwn=true)
  (X:getN u st=some (.s .own d z rows)) (F:OwnT w (.s .own d z rows)) (g:GrewH (bl (.s .own d z rows)) w w') {bx:List Nat} {o:Bool×List DT} {rd:dw} {v:Value} (R:RetOk w (bl (.s .own d z rows)) w' bx [o] rd v)
  {e:Dec} {a:List (List DT)} (H:(.s .own e z a:DT)∈o.2) (k:Value.slice e.addr a.length e.cap = .slice d.addr rows.length d.cap):
  ∃Q n,c8 (ke a) (St.dead (cK h c) (li h c) D) h c st=some Q∧PendOf n (rd.flatMap (·.2))∧Inv cx Q n tm w':=by
 simp only[Value.slice.injEq]at k;obtain⟨v1,v2,v3⟩:=k;have S:=R.holds o (by simp) (.s .own e z a) H;have J:=R.own o (by simp) (.s .own e z a) H rfl;have hd:e=d∨(d.nil=true∧a=[]∧d.sp=none∧d.cap=0):=by
  rw[Dec.addr_sp J.sp,Dec.addr_sp F.sp]at v1;cases j:d.nil with
  |true =>
   right;rw[j]at v1;have B:e.nil=true:=by
    cases q:e.nil with
    |true=>rfl
    |false=>rw[q]at v1;simp at v1
   refine⟨rfl,S.nilrows B,F.sp,?_⟩;cases F with
   |nil _ _ _ _ hc=>exact hc
   |s _ _ _ q=>rw[q]at j;cases j
  |false =>
   left;rw[j]at v1;cases q:e.nil with
   |true=>rw[q]at v1;simp at v1
   |false =>rw[q]at v1;simp only[Oz,OZ,OJ,Addr.mk.injEq]at v1;have s1:=J.sp;have s2:=F.sp;cases d;cases e;simp_all
 have K:Holds w' (.s .own d z a):=by
  rcases hd with rfl|⟨q1,rfl,x,G⟩
  ·exact S
  ·exact .e .own d z
 have L:OwnT w' (.s .own d z a):=by
  rcases hd with rfl|⟨q1,rfl,x,G⟩
  ·exact J
  ·exact .nil d z q1 x G
 have C:∀b,(bl (.s .own d z a)).count b≤(bl (.s .own e z a)).count b:=by
  intro b;rcases hd with rfl|⟨q1,rfl,x,G⟩
  ·exact OP _
  ·rw[cl,q1];simp
 obtain⟨n,A⟩:=eU R.each;have l:∀b,(bl (.s .own e z a)).count b+aO n b≤(bn ([o]++rd)).count b:=by
  intro b;rw[kM,OA,A.cnt,ox rd];refine Nat.add_le_add ?_ (OP _);obtain⟨i,hi⟩:=Og H;have q:=bG ownR (.any:DT) b o.2 i _ hi;have M:(ownR (.any:DT)).count b=0:=rfl;have x:ownR (.s .own e z a:DT)=bl (.s .own e z a):=by simp[ownR,T.isOwn]
  rw[x]at q;have G:(bn [o]).count b=(o.2.flatMap ownR).count b:=by simp[bn]
  omega
 have N:NodeOk w w' (.s .own d z rows) (.s .own d z a):=⟨K,L,fun y Y=>by show y=_;rw[show y=_ from Y,v2],fun b hb O=>g.same b hb O⟩
 obtain⟨D',Z,U⟩:=I.updNode (P':=n) V W X (f:=ke a) rfl N (fun _=>rfl) (p:=cK h c) (q:=li h c) (by simp[cK]) (.inr (.inl ⟨by simp[li],fun d2 z2 m ⟨U,r2,q1,M⟩=>by
   simp only[getN,OJ,T.s.injEq]at q1;obtain⟨rfl,rfl,rfl,rfl⟩:=q1;exact⟨.own,a,rfl,by omega⟩⟩)) (fun b=>by
   have q1:=R.once b;have x:=l b;have M:=C b;split
   ·rename_i Q7;rcases O0 ((bl (.s .own e z a)).count b+aO n b)with q|q
    ·omega
    ·have:=R.new b (Ot.1 (by omega));rcases this.1 with q'|q'
     ·omega
     ·have:=Ot.2 q';omega
   ·omega) (fun b hb hp=>by
   have M:=C b;have x:=l b;exact(R.new b (Ot.1 (by omega))).2) g.size g.os g.tape g.output (R.pend (fun t P=>by
   obtain⟨r,hr,P⟩:=Oj.1 P;exact⟨r,by simp[hr],P⟩) A cx)
 exact⟨D',n,Z,A,U⟩
theorem By {d:Dec}{z:Nat}{rows:List (List DT)}:ownBl (.one (.s .own d z rows):DSl)=bl (.s .own d z rows):=by simp[ownBl,ownR,T.isOwn]
theorem Inv.nodePut {cx:Cx}{D j:DSt}{tm:Array Value}{w w':World}(I:Inv cx D [] tm w){h c:Nat}{d:Dec}{z:Nat}{rows:List (List DT)}(k:aq D h c=some (.s .own d z rows))(l:OwnT w (.s .own d z rows))
  (g:GrewH (bl (.s .own d z rows)) w w') {bx:List Nat} {o:Bool×List DT} {rd:dw} {v:Value} (R:RetOk w (bl (.s .own d z rows)) w' bx [o] rd v) {u:DT} (m:u∈o.2) (hv:VT u (.slice d.addr rows.length d.cap))
  (e:Am.nodePut D h c u=some j):∃a,PendOf a (rd.flatMap (·.2))∧Inv cx j a tm w':=by
 unfold Am.nodePut at e;rw[k]at e;split at e
 case h_2=>cases e
 rename_i r s z0 b t x f i;cases i;split at e
 case isFalse=>cases e
 rename_i hz;subst hz;obtain⟨y,a,n,p,q⟩:=I.nodeBack (st:=[]) k rfl rfl l g R m hv.symm;rw[n]at e;cases e;exact⟨a,p,q⟩
theorem Inv.boxBack {cx:Cx}{D D1:DSt}{P:List (DT×Value)}{tm:Array Value}{w w':World}(I:Inv cx D [] tm w){h:Nat}{b:Nat×Nat}{m:List DT}(hb:D[h]?=some (.box b m))(Y:m.all T.noLent=true)(Z:Inv cx (aU h D) P tm w){X bx:List Nat}
  (hX:Out cx (aU h D) X) (Q7:Out cx (aU h D) (ownBl (.box b m))) (L:b.1∉X) (C:b.1<w.heap.size) (g:GrewH X w w') {o:Bool×List DT} {rd:dw} {v:Value} (R:RetOk w X w' bx [o] rd v)
  {cs:Array Value} (ho:VCells o.2 cs.toList) (M:∀(i:Nat)(x:DT)(y:Value),m[i]?=some x→x.isOwn=true→cs.toList[i]?=some y→VT x y):
  ∃N,PendOf N (rd.flatMap (·.2))∧Inv cx (aT (aU h D) (some h) (.box b (iT m o.2))) N tm w':=by
 obtain⟨Po,O⟩:=eU ho.each;obtain⟨N,S⟩:=eU R.each;obtain⟨I2,hc⟩:=Z.back hX g R O S;have F:=N8 hb;have hm:=I.mem _ F;have G:=I.kind _ F;have ht:h<(aU h D).length:=by rw[m6];exact dY hb
 have Q8:h<tm.size:=by rw[←Z.size];exact ht
 have same:w'.heap[b.1]?=w.heap[b.1]?:=g.same b.1 C L;have n:∀x∈iT m o.2,(x∈o.2)∨(x∈m∧x.isOwn=false):=by
  intro x H;obtain⟨i,hi⟩:=Og H;obtain⟨t',u',q1,q2,B⟩:=x8 hi;cases l:t'.isOwn with
  |true=>rw[l,N5 rfl]at B;subst B;exact .inl (N8 q2)
  |false=>rw[l,Oh Pm]at B;subst B;exact .inr ⟨N8 q1,l⟩
 have p:∀x∈m,x.isOwn=false→∀y∈bl x,(Cx.mk w X).far y:=by
  intro x H Q9 y K;rcases yO (iJ Y x H)with q|q|⟨d,z,r,rfl⟩
  ·rw[Q9]at q;cases q
  ·rw[q]at K;cases K
  ·exact Z.farX hX (G _ H y K)
 obtain⟨c,e,f,l1,l2⟩:=hm.2.2.1;refine⟨N,S,?_⟩;rw[←He (tm:=tm) (t:=h) Q8];refine Inv.putF (P:=Po) (Q:=N) I2 (fun x=>if x=b.1 then 1 else 0) (fun x H => ?_) ht (I.val h _ hb) ⟨fun u U => ?_,fun u U J => ?_,⟨⟨c,e,f,by rw[same];exact l1,fun j u hj => ?_⟩,fun c' e' lo R3 V y h1 h2 => ?_⟩⟩ (fun u U => ?_) (fun x => ?_)
 ·split at H
  ·rename_i A;subst A;have q0:=Q7 b.1 (by simp[ownBl]);refine⟨by simp,?_,q0.1,OM C g.size⟩;rw[hc,q0.2];rcases O0 ((bn ([o]++rd)).count b.1)with q|q
   ·omega
   ·have:=(R.new b.1 (Ot.1 q)).1;rcases this with q'|q'
    ·omega
    ·exact absurd q' L
  ·cases H
 ·rcases n u U with q|⟨q,q2⟩
  ·exact R.holds o (by simp) u q
  ·exact(hm.1 u q).frame fun y K _=>g.same y (p u q q2 y K).1 (p u q q2 y K).2
 ·rcases n u U with q|⟨q,q2⟩
  ·exact R.own o (by simp) u q J
  ·rw[q2]at J;cases J
 ·obtain⟨t',u',q1,q2,B⟩:=x8 hj;obtain⟨y,y1,y2⟩:=l2 j t' q1;refine⟨y,y1,?_⟩;cases l:t'.isOwn with
  |false=>rw[l,Oh Pm]at B;subst B;exact y2
  |true =>
   rw[l,N5 rfl]at B;subst B;have R4:j<cs.toList.length:=by rw[←ho.1];exact dY q2
   have W:=Oa R4;have v1:=M j t' _ q1 l W;have v2:=ho.2 j _ _ q2 W;cases t' with
   |v x=>cases l
   |any=>cases l
   |s k d z r =>have e1:cs.toList[j]= .slice d.addr r.length d.cap:=v1;have e2:y = .slice d.addr r.length d.cap:=y2;rw[e2, ←e1];exact v2
 ·rw[same]at V;have R5:(iT m o.2).length≤m.length:=by
   have:∀(a b:List DT),(iT a b).length≤a.length:=by
    intro a;induction a with
    |nil=>intro b;cases b<;>simp[iT]
    |cons x a ih=>intro b;cases b with
     |nil=>simp[iT]
     |cons y b=>simp only[iT,OI];have:=ih b;omega
   exact this m o.2
  exact hm.2.2.2 c' e' lo R3 V y h1 (by omega)
 ·rcases n u U with q|⟨q,q2⟩
  ·exact ta (R.fine o (by simp) u q)
  ·rcases yO (iJ Y u q)with q'|q'|⟨d,z,r,rfl⟩
   ·rw[q2]at q';cases q'
   ·cases u with
    |v x=>trivial
    |any=>trivial
    |s k d z r=>cases k<;>first|(cases q2;done)|exact G _ q|(have:=iJ Y _ q;cases this)
   ·exact G _ q
 ·have q:=Eq (ts:=m) (us:=o.2) x;rw[O.cnt];simp only[ownBl,Pf];by_cases A:x=b.1
  ·subst A;simp;omega
  ·have:(b.1==x)=false:=by simp;exact fun h=>A h.symm
   simp[this,A];omega
theorem Inv.homePut0 {cx:Cx}{D:DSt}{a:Act}{w w':World}(I:Inv cx D [] a.tmps w){x:Operand}{s:DSl}{D1 D2:DSt}(e:Am.homeTake D x=some (s,D1))(g:GrewH (ownBl s) w w'){o:Bool×List DT}{rd:dw}{v:Value}
  (R:RetOk w (ownBl s) w' (cv s) [o] rd v) (B:yq w' s (a.eval x) o) (i:Am.homePut0 D D1 x o=some D2):∃G,PendOf G (rd.flatMap (·.2))∧Inv cx D2 G a.tmps w':=by
 obtain⟨P,h1,h2,h3,h4,h5⟩:=I.homeTake e;have m:∀{b:Nat×Nat}{us:List DT},Lies w' b us→∀u∈us,∃y,VT u y:=by rintro b us ⟨c,e,f,q1,H⟩ u hu;obtain⟨j,S⟩:=Og hu;obtain⟨y,_,hy⟩:=H j u S;exact⟨y,hy⟩
 cases x with
 |tmp t =>
  simp only[Am.homeTake]at e;split at e
  ·rename_i b ts hD;split at e
   case isFalse=>cases e
   cases e;simp only[Am.homePut0,hD]at i;cases i;obtain⟨k,n,o3⟩:=B;have hb:=(h3.own b.1 (by simp[ownBl])).2;exact h1.putBack h2 g R (by rw[m6];exact dY hD) (s' := .box b o.2) (I.val t _ hD) rfl rfl ⟨n,o3⟩ (.inl ⟨b,rfl,rfl,by simp[ownBl],hb⟩) (m n)
  ·rename_i h off hD;split at e
   case isFalse=>cases e
   split at e
   case h_2=>cases e
   rename_i b ts hb;split at e
   case isFalse=>cases e
   cases e;simp only[Am.homePut0,hD,hb]at i;cases i;obtain⟨k,n,o3⟩:=B;have Q7:=(h3.own b.1 (by simp[ownBl])).2;exact h1.putBack h2 g R (by rw[m6];exact dY hb) (s' := .box b o.2) (I.val h _ hb) rfl rfl ⟨n,o3⟩ (.inl ⟨b,rfl,rfl,by simp[ownBl],Q7⟩) (m n)
  ·rename_i h c st lo len hD;split at e
   case h_2=>cases e
   rename_i d z rows hn;split at e
   case isFalse=>cases e
   rename_i hc;obtain⟨rfl,rfl⟩:=hc;rw[N9]at e;obtain⟨D3,R4,e⟩:=e;cases e;simp only[Am.homePut0,hD,hn]at i;split at i
   case h_2=>cases i
   rename_i k0 d0 z0 J d' z' K Q8 l;cases Q8;split at i
   case isFalse=>cases i
   rename_i hz;subst hz;obtain⟨u,n1,n2,n3,n4,n5,n6⟩:=I.alNode hD hn;obtain⟨k,n⟩:=B;unfold VPart at k;rw[n,l]at k;simp only[Oz,OZ]at k;obtain⟨t',q,r⟩:=k;cases q;have U:Value.slice d'.addr K.length d'.cap = .slice d.addr rows.length d.cap:=by have q1:a.eval (.tmp t)=_:=r;have H:a.tmps.getD t undef=_:=n6;exact q1.symm.trans H
   rw[By]at g R;obtain⟨D4,G,k1,k2,k3⟩:=I.nodeBack n1 n2 n3 n5 g R (by rw[l];simp) U;rw[k1]at i;cases i;exact⟨G,k2,k3⟩
  ·rename_i u hD;split at e
   case isFalse L =>
    split at e
    case h_2=>cases e
    rename_i h c hr;split at e
    case h_2=>cases e
    rename_i d z rows hc;rw[N9]at e;obtain⟨D',e1,e3⟩:=e;cases e3;obtain⟨P',q1,H,q3,q4,q5,V⟩:=I.nodeTake hc e1;obtain⟨d0,z0,J,g1,g2⟩:=Inv.root hr (I.kind _ (N8 hD) u (by simp[aj])) (I.val t _ hD);rw[hc]at g1;cases g1;simp only[Am.homePut0,hD]at i;split at i
    case h_2=>cases i
    rename_i d1 z1 M l;rw[Oh L,hr]at i;obtain⟨k,n⟩:=B;unfold VPart at k;rw[n,l]at k;simp only[Oz,OZ]at k;obtain⟨t',q,r⟩:=k;cases q;rw[By]at g R;have N:VT (.s .own d1 z1 M:DT) (.slice d.addr rows.length d.cap):=by have:a.eval (.tmp t)= .slice d.addr rows.length d.cap:=g2;rw[←this];exact r
    exact I.nodePut hc V g R (by rw[l];simp) N i
   rename_i W;cases e;simp only[Am.homePut0,hD]at i;split at i
   case h_2=>cases i
   rename_i d z rows l;rw[N5 W]at i;cases i;obtain⟨k,n⟩:=B;have p:=k.each;unfold VPart at k;rw[n,l]at k;simp only[Oz,OZ]at k;obtain⟨t',q,r⟩:=k;cases q;exact h1.putBack h2 g R (by rw[m6];exact dY hD) (s' := .one (.s .own d z rows)) r l.symm l.symm trivial (.inr (.inl ⟨_,rfl⟩)) p
  ·rename_i ts hD;split at e
   case isFalse L =>
    split at e
    case h_2=>cases e
    rename_i h c j X;obtain⟨u,_,S,hr⟩:=rQ X;rw[Nat.sub_zero]at S;simp only[Am.homePut0,hD]at i;rw[Oh L,X]at i;simp only at i;have C:Am.aggNode D ts h c j=some (s,D1)→(o.2[j]?).bind (Am.nodePut D h c)=some D2→∃G,PendOf G (rd.flatMap (·.2))∧Inv cx D2 G a.tmps w':=fun e i=>by
     obtain⟨d,z,rows,g1,g2,g3,P',q1,H,q3,q4,q5,V⟩:=I.aggNode hD S hr e;subst g2;rw[g3]at g R;obtain⟨k,n⟩:=B;unfold VPart at k;rw[n]at k;simp only[OH]at k;obtain⟨cs,O,A⟩:=k;rw[N6]at i;obtain⟨v',hv1,N⟩:=i;have Y:j<cs.toList.length:=by rw[←A.1];exact dY hv1
     obtain⟨Q,F,Z⟩:=q3.val D;have Q9:Q=cs:=by rw[O]at F;cases F;rfl
     subst Q9;have k1:=A.2 j v' _ hv1 (Oa Y);have k2:VT (.s .own d z rows:DT) Q.toList[j]:=Z.2 j _ _ (by rw[Oi (dY S)]) (Oa Y);have k3:Q.toList[j]= .slice d.addr rows.length d.cap:=k2;rw[k3]at k1;exact I.nodePut g1 V g R (N8 hv1) k1 N
    split at e
    case h_2 R3 =>
     split at i
     ·rename_i b bs hb;exact absurd hb (R3 b bs)
     ·exact C e i
    rename_i b bs hb;rw[hb]at i;simp only at i;split at e
    case isFalse hc =>rw[Oh hc]at i;exact C e i
    rename_i hc;rw[N5 hc]at i;cases e;cases i;obtain⟨P',q1,H,q3,q4,⟨q5,V,q7⟩,q8⟩:=I.boxAgg hD hb hc.1 hc.2.1;obtain⟨k,n⟩:=B;unfold VPart at k;rw[n]at k;simp only[OH]at k;obtain⟨cs,O,A⟩:=k;exact I.boxBack (D1:=aU h D) hb hc.2.1 q1 H q5 V q7 g R A (q8 cs O)
   rename_i hl;split at e
   case isFalse=>cases e
   cases e;simp only[Am.homePut0,hD]at i;rw[N5 hl]at i;cases i;obtain⟨k,n⟩:=B;have p:=k.each;unfold VPart at k;rw[n]at k;exact h1.putBack h2 g R (by rw[m6];exact dY hD) (s' := .agg o.2) k rfl rfl trivial (.inr (.inr ⟨_,rfl⟩)) p
  ·cases e
 |_=>cases e
section
variable  {δ β : Type}
def yQ (o:Bool×List (T δ)):Bool:=match o with|(false,[.any])=>true|_=>false
def homePut (D D1:St δ β)(x:Operand)(o:Bool×List (T δ)):Option (St δ β):=if yQ o=true then some D1 else homePut0 D D1 x o
end
theorem KW (o:Bool×List DT):yQ (o.1,erL o.2)=yQ o:=by
 obtain⟨g,ts⟩:=o;cases g with
 |true=>rfl
 |false =>
  match ts with
  |[]=>rfl
  |[t]=>cases t<;>first|rfl|(simp only[erL,Oq,OL,aB];rfl)
  |t::u::ts=>cases t<;>first|rfl|(simp only[erL,Oq,aB];rfl)
theorem HH (D D1:DSt)(x:Operand)(o:Bool×List DT):homePut (erD D) (erD D1) x (o.1,erL o.2)=(homePut D D1 x o).map erD:=by unfold homePut;rw[KW,FD];split<;>rfl
theorem Inv.dropL {cx:Cx}{D:DSt}{P Q:List (DT×Value)}{tm:Array Value}{w:World}(I:Inv cx D (P++Q) tm w):Inv cx D Q tm w where
 size:=I.size
 val:=I.val
 mem:=I.mem
 kind:=I.kind
 pend:=fun p a=>I.pend p (by simp[a])
 once:=fun b=>by have:=I.once b;rw[gF]at this;omega
 bnd:=fun b hb=>I.bnd b (by rw[gF];omega)
 frame:=I.frame
theorem Inv.homePut {cx:Cx}{D:DSt}{a:Act}{w w':World}(I:Inv cx D [] a.tmps w){x:Operand}{s:DSl}{D1 j:DSt}(e:Am.homeTake D x=some (s,D1))(g:GrewH (ownBl s) w w'){o:Bool×List DT}{rd:dw}{v:Value}
  (R:RetOk w (ownBl s) w' (cv s) [o] rd v) (l:yq w' s (a.eval x) o) (d:Am.homePut D D1 x o=some j):∃f,PendOf f (rd.flatMap (·.2))∧Inv cx j f a.tmps w':=by
 unfold Am.homePut at d;split at d
 ·rename_i h;cases d;obtain⟨P,m,n,p,q,r⟩:=I.homeTake e;have b:∀u∈o.2,∃y,VT u y:=by
   unfold yQ at h;split at h
   ·intro u k;rw[Oc]at k;subst k;exact⟨.bool true,rfl⟩
   ·cases h
  obtain⟨t,i⟩:=eU b;obtain⟨f,c⟩:=eU R.each;exact⟨f,c,(m.back n g R i c).1.dropL⟩
 ·exact I.homePut0 e g R l d
abbrev US:=St Unit Unit
def iX (P : Program) (fns : FuncId → Option Func) : Prop := ∀ f fn, fns f = some fn → P.funcs[f]? = some fn ∧ (fn.name == "runtime.NumGoroutine") = false ∧ fn.body.isNone = false
def callTo (D:US)(o:Oper):Option (FuncId×List Operand×List (Unit×List (T Unit))):=
 match o.op with
 | .call c=>match c.callee with| .value x=>(match opd mkU.nil D x with|some (.fni f caps)=>some (f,c.args.toList,caps)|_=>none)|_=>none
 |_=>none
theorem Inv.callTo {cx:Cx}{D:DSt}{a:Act}{w:World}(I:Inv cx D [] a.tmps w){o:Oper}{f:FuncId}{xs:List Operand}{caps:List (Unit×List (T Unit))}(h:callTo (erD D) o=some (f,xs,caps)):
  ∃c x d,o.op = .call c∧c.callee = .value x∧xs=c.args.toList∧caps=d.map (fun p=>((),erL p.2))∧AOk w [] (.fni f d) (a.eval x) ∧
   a.eval x = .func (.func f) #[] (d.map fun b=>Value.pointer (some ⟨b.1.1,b.1.2,none⟩)).toArray:=by
 unfold Am.callTo at h;split at h
 case h_2=>cases h
 rename_i c j;split at h
 case h_2=>cases h
 rename_i x e;split at h
 case h_2=>cases h
 rename_i f' l n;cases h;rw[cg,N9]at n;obtain⟨s,q,g⟩:=n;have hv:=(I.opd q).val;cases s with
 |fni i d =>
  simp only[Sl.er,Sl.fni.injEq]at g;obtain⟨rfl,rfl⟩:=g;refine⟨c,x,d,j,e,rfl,rfl,?_,hv⟩;have:Am.argOf mkD D x=some (Sl.fni i d):=by have m:Am.opd mkD.nil D x=some (Sl.fni i d):=q;simp only[Am.argOf,m]
  exact(I.argOf (Out.nil cx D) this).1
 |one u=>cases g
 |im k b ts off=>cases g
 |_=>cases g
theorem ArgsOk.ims {w:World}{X:List Nat}{ad:List DSl}{c:List Value}(h:ArgsOk w X ad c){f:FuncId}{caps:List ((Nat×Nat)×List DT)}{y:Value}(g:AOk w X (.fni f caps) y):
  ArgsOk w X (ad++Am.ims caps) (c++caps.map fun b=>Value.pointer (some ⟨b.1.1,b.1.2,none⟩)):=by
 obtain⟨d,e,j⟩:=h;refine⟨by simp[d,Am.ims],fun i a v hi hv => ?_,fun b=>by rw[Pn,JK,OC];exact j b⟩;rcases Od i ad.length with q|q
 ·rw[OY q]at hi;rw[OY (by omega)]at hv;exact e i a v hi hv
 ·rw[OU q]at hi;rw[OU (by omega), ←d]at hv;exact g.ims _ a v hi hv
theorem D5 {caps:List ((Nat×Nat)×List DT)}:∀a∈Am.ims caps,a.isHome=false:=by intro a b;obtain⟨p,_,rfl⟩:=Oo.1 b;rfl
def addrSl (D:US)(dst:Option Nat)(offs:List Nat)(xs:List Operand)(caps:List (Unit×List (T Unit))):Option US :=
 match xs,caps with
 |[x],[]=>(jY D x).bind fun h=>dT D dst (.clo (.arr offs) (offs.map fun _=>h))
 |_,_=>none
theorem K1 (D:DSt)(dst:Option Nat)(s:DSl):dT (erD D) dst s.er=(dT D dst s).map erD:=mG D dst s
theorem BP {α β:Type}(x:α):∀(l:List β),((l.map fun _=>x).zip l)=l.map fun o=>(x,o)
 |[]=>rfl
 |o::l=>by simp[BP x l]
theorem Inv.addrSl {P:Program}{tab:Tab}(ok:bm P tab){cx:Cx}{D:DSt}{a:Act}{w:World}(I:Inv cx D [] a.tmps w){f:FuncId}{offs:List Nat}(hf:tab.addr.lookup f=some offs){dst:Option Nat}{xs:List Operand}
  {U:US} (e:addrSl (erD D) dst offs xs []=some U):Calls P f (xs.map a.eval).toArray w fun e w'=>∃v,e = .returned v∧∃D',erD D'=U∧Inv cx D' [] (a.put dst v).tmps w':=by
 unfold Am.addrSl at e;split at e
 case h_2=>cases e
 rename_i x _;rw[tz,N6]at e;obtain⟨h,c,n⟩:=e;have j:∃(b:Nat×Nat) (ts:List DT),D[h]?=some (.box b ts)∧a.eval x = .pointer (some ⟨b.1,b.2,none⟩):=by
  unfold jY at c;split at c
  ·rename_i t;split at c
   ·rename_i b ts hb;cases c;exact⟨b,ts,hb,I.val _ _ hb⟩
   ·rename_i q hb;cases c;obtain⟨b,ts,r,s⟩:=I.val _ _ hb;exact⟨b,ts,r,s⟩
   ·cases c
  ·cases c
 obtain⟨b,ts,y,z⟩:=j;have A:=ok.addr _ (gp hf) b w;simp only[Oq,OL,z];refine A.mono ?_;rintro e w' ⟨rfl,g⟩;refine⟨_,rfl,?_⟩;have m:Inv cx D [] a.tmps w':=I.world (P':=[]) (Out.nil cx D) (g.x []) (fun p B=>by cases B) (fun b hb=>by rw[cq]at hb;cases hb);have C:Tells cx D w' (.clo (.arr offs) (offs.map fun _=>h)) (.agg (offs.map fun o=>Value.pointer (some ⟨b.1,b.2+o,none⟩)).toArray):=by
  refine⟨⟨offs.map fun _=>b,by simp,fun i q F hi hb => ?_,?_⟩,⟨fun u k=>by simp[aj]at k,fun u k=>by simp[rootsO]at k,trivial⟩,fun u k=>by simp[aj]at k,rfl⟩
  ·rw[Ok,N9]at hi hb;obtain⟨_,_,rfl⟩:=hi;obtain⟨_,_,rfl⟩:=hb;exact⟨ts,y⟩
  ·simp only[Dj,BP,OQ];rfl
 have l:dT (erD D) dst (Sl.er (.clo (.arr offs) (offs.map fun _=>h)))=some U:=n;rw[K1,N9]at l;obtain⟨D',d,rfl⟩:=l;refine⟨D',rfl,?_⟩;unfold dT at d;split at d
 ·cases d;exact m
 ·split at d
  ·cases d;exact m.putA ‹_› C
  ·cases d
def stepU (tab:Tab)(fns:FuncId→Option Func)(C:Sem1)(D:US)(o:Oper)(tk:Bool):Option US :=
 match callTo D o with
 |some (f,xs,caps)=>
  if(fns f).isSome then
   match tab.addr.lookup f with
   |some offs=>addrSl D o.dst offs xs caps
   |none =>
   match tab.io.lookup f with
   |none=>(argsW mkU tab f D xs).bind fun as=>(C f (as++ims caps)).bind fun rs=>putRet mkU D o.dst rs
   |some i =>
    match caps,xs[i]? with
    |[],some x=>(homeTake D x).bind fun r=>(argsIo mkU r.2 r.1 i xs).bind fun as=>(C f as).bind fun rs=>match rs with|q::rs=>(homePut D r.2 x q).bind fun a=>putRet mkU a o.dst rs|[]=>none
    |_,_=>none
  else none
 |none=>cS mkU frU tab D o tk
theorem BG {P:Program}{o:Oper}{c:Call}{x:Operand}{f:FuncId}{fn:Func}{a:Act}{w:World}{d:List Value}(e:o.op = .call c)(b:c.callee = .value x)(g:a.eval x = .func (.func f) #[] d.toArray)
  (l : P.funcs[f]? = some fn) (m : (fn.name == "runtime.NumGoroutine") = false) (k : fn.body.isNone = false) : (execOp a.eval o).run P w = .ok (.enter f (c.args.toList.map a.eval ++ d).toArray) w := by
 have n:(c.args.toList.map a.eval++d).toArray=c.args.map a.eval++d.toArray:=by rw[←PF];simp
 rw[n];simp only[execOp,e,resolve,b,g];have i : ¬ fn.name = "runtime.NumGoroutine" := by simpa using m
 have j:¬fn.body=none:=by intro h;rw[h]at k;cases k
 simp[Deferred.ofValue,invoke,callFunc,l,i,j]
theorem zY {rd:dw}:erR ([]++rd)=erR rd:=rfl
theorem Inv.stepU {P:Program}{tab:Tab}(ok:bm P tab){fns:FuncId→Option Func}(hf:iX P fns){B:Base}{C:Sem1}{cx:Cx}(A:gP P B C cx){D:DSt}{a:Act}{w:World}(I:Inv cx D [] a.tmps w)
  {o:Oper} {tk:Bool} {U:US} (e:stepU tab fns C (erD D) o tk=some U) {K:Act→World→Prop} {Q:Exit→Act→World→Prop}
  (t:∀D' F w',erD D'=U→(∃y,F=a.put o.dst y)→Inv cx D' [] F.tmps w'→K F w'):o.wp P a w K Q:=by
 unfold Am.stepU at e;split at e
 ·rename_i f xs caps hc;split at e
  case isFalse=>cases e
  rename_i G;obtain⟨fn,H⟩:=PU.1 G;obtain⟨p1,p2,p3⟩:=hf f fn H;obtain⟨c,x,b,J,u,rfl,rfl,L,M⟩:=I.callTo hc;have N:=BG (w:=w) J u M p1 p2 p3;unfold Oper.wp;rw[N];split at e
  ·rename_i offs p;have d:b=[]:=by
    unfold Am.addrSl at e;split at e
    ·rename_i O;simpa using O
    ·cases e
   subst d;have k:=I.addrSl ok p e;simp only[OL,OC];refine k.mono ?_;rintro e0 w' ⟨v,rfl,D',l,r⟩;exact t D' _ _ l ⟨_,rfl⟩ r
  split at e
  ·rw[N6]at e;obtain⟨as,k,e⟩:=e;rw[N6]at e;obtain⟨rs,l,r⟩:=e;rw[Dp]at k;obtain⟨ad,m,rfl⟩:=N9.1 k;obtain⟨S,hN⟩:=I.argsW (Out.nil cx D) m;have V:=S.ims L;have W:∀s∈ad++ims b,s.isHome=false:=fun s hs=>(OD.1 hs).elim (hN s) (D5 s)
   have j:=A.1 f _ rs l w [] (ad++ims b) _ (A.2.at I (Out.nil cx D)) (by rw[Pg,Jo]) V;refine j.mono ?_;rintro e w' ⟨v,od,rd,rfl,g,X,Y,R⟩;have:=OutsOk.none W Y;subst this;subst X;rw[zY,Bm]at r;obtain⟨D',Z,rfl⟩:=N9.1 r;exact t D' _ _ rfl ⟨_,rfl⟩ (I.putRet g.grew R Z)
  ·rename_i i R5;split at e
   case h_2=>cases e
   rename_i x0 d Q7;have Q8:b=[]:=by simpa using d
   subst Q8;rw[N6]at e;obtain⟨⟨s,D1⟩,k,e⟩:=e;rw[FE]at k;obtain⟨⟨sd,R6⟩,m,Q9⟩:=N9.1 k;cases Q9;rw[N6]at e;obtain⟨as,l,e⟩:=e;rw[N6]at e;obtain⟨rs,r,e⟩:=e;simp only at l;rw[Bk]at l;obtain⟨ad,R3,rfl⟩:=N9.1 l;obtain⟨Pd,k1,k2,k3,k4,k5⟩:=I.homeTake m;obtain⟨S,hB,n⟩:=k1.argsIo k2 k3 k4 Q7 R3;have j:=A.1 f _ rs r w (ownBl sd) ad _ (A.2.at k1 k2) rfl S;simp only[OL,OC];refine j.mono ?_;rintro e0 w' ⟨v,od,rd,rfl,g,X,Y,R⟩;obtain⟨q,rfl,hq⟩:=OutsOk.one k5 n Y;subst X;rw[OneHome.box n]at R;simp only[PC,erR,Oq]at e;rw[N6]at e;obtain⟨U2,e1,e2⟩:=e;rw[HH]at e1;obtain⟨D2,R4,rfl⟩:=N9.1 e1;obtain⟨Pr,n1,n2⟩:=I.homePut m g R hq R4;have z:Am.putRet mkU (erD D2) o.dst (erR rd)=some U:=e2;rw[Bm]at z;obtain⟨D',e3,rfl⟩:=N9.1 z;exact t D' _ _ rfl ⟨_,rfl⟩ (n2.putRetP R n1 e3)
 ·rw[K2 w]at e;obtain⟨D',e',rfl⟩:=N9.1 e;obtain⟨nx,w',k,l⟩:=zC ok I e';unfold Oper.wp;rw[k];cases l with
  |value y h=>exact t D' _ _ rfl ⟨_,rfl⟩ h
  |skip hd h =>show K (a.put o.dst undef) w';refine t D' _ _ rfl ⟨_,rfl⟩ ?_;rw[hd];exact h
def yieldAt {δ β:Type}(D:St δ β)(t:Nat):Option (Option Bool):=
 match D[t]? with
 |some (.one (.v (.bool b)))=>some (some b)
 |some (.tup [])=>some none
 |_=>none
theorem tA (D:DSt)(t:Nat):yieldAt (erD D) t=yieldAt D t:=by
 unfold yieldAt;rw[bW];cases D[t]? with
 |none=>rfl
 |some s =>
  cases s with
  |one u =>
   cases u with
   |s k d z r=>simp[Sl.er,aB]
   |v x=>cases x<;>rfl
   |any=>rfl
  |tup rs=>cases rs<;>rfl
  |_=>rfl
theorem Inv.yieldAt {cx:Cx}{D:DSt}{P:List (DT×Value)}{tm:Array Value}{w:World}(I:Inv cx D P tm w){t:Nat}{y:Option Bool}(e:yieldAt D t=some y):
  (match tm[t]? with|some (.bool b)=>some b|_=>none)=y:=by
 unfold Am.yieldAt at e;have a:∀s,D[t]?=some s→VS D s (tm.getD t undef)∧tm[t]?=some (tm.getD t undef):=by
  intro s h;have c:t<tm.size:=by
   rw[←I.size];rcases Od t D.length with g|g
   ·exact g
   ·rw[Ob g]at h;cases h
  refine⟨I.val t _ h,?_⟩;rw[OT,ON c];rfl
 split at e
 ·rename_i i h;cases e;obtain⟨d,f⟩:=a _ h;rw[f,show tm.getD t undef = .bool i from d.1]
 ·rename_i h;cases e;obtain⟨⟨j,d,_⟩,f⟩:=a _ h;rw[f,d]
 ·cases e
theorem Inv.putUndef {cx:Cx}{D:DSt}{a:Act}{w:World}(I:Inv cx D [] a.tmps w){t:Nat}(c:t<D.length):Inv cx (Am.putA D t (.tup [])) [] (a.put (some t) undef).tmps w :=
 I.putA c ⟨⟨#[],rfl,rfl,fun i r v h=>by simp at h⟩,⟨fun u b=>by simp[aj]at b,fun u b=>by simp[rootsO]at b,trivial⟩,fun u b=>by simp[aj]at b,rfl⟩
def runOps (tab:Tab)(fns:FuncId→Option Func)(C:Sem1)(tk:Nat→Bool)(ops:Array Oper):List Oper→Nat→US→Option US
 |[],_,D=>some D
 |o::r,i,D =>
  match o.guard with
  |none=>(stepU tab fns C D o (tk i)).bind (runOps tab fns C tk ops r (i+1))
  |some (j,a)=>
   match((ops[j]?).bind (·.dst)).bind (yieldAt D)with
   |some b=>if b=some a then(stepU tab fns C D o (tk i)).bind (runOps tab fns C tk ops r (i+1))else
    (match o.dst with|none=>some D|some t=>if t<D.length then some (putA D t (.tup []))else none).bind (runOps tab fns C tk ops r (i+1))
   |none=>none
theorem Inv.runOps2 {P:Program}{tab:Tab}(ok:bm P tab){fns:FuncId→Option Func}(hf:iX P fns){B:Base}{C:Sem1}{cx:Cx}(m:gP P B C cx){tk:Nat→Bool}{ops:Array Oper}{Q:Exit→Act→World→Prop}{U:US}
  {T:Act→Prop} {l2:List Oper} (n:∀D' p w',erD D'=U→T p→Inv cx D' [] p.tmps w'→wpList P ops Q l2 p w'):∀(l:List Oper)(i:Nat){D:DSt}{a:Act}{w:World},(∀o∈l,∀a y,T a→T (a.put o.dst y))→Inv cx D [] a.tmps w→T a →
   runOps tab fns C tk ops l i (erD D)=some U→wpList P ops Q (l++l2) a w
 |[],i,D,a,w,_,I,hd,e=>by cases e;exact n D a w rfl hd I
 |o::l,i,D,a,w,u,I,hd,e=>by
  have f:∀o∈l,∀a y,T a→T (a.put o.dst y):=fun F h=>u F (by simp[h])
  have x:Region.wanted o (yielded ops a.tmps)=true→(Am.stepU tab fns C (erD D) o (tk i)).bind (Am.runOps tab fns C tk ops l (i+1))=some U→wpList P ops Q (o::(l++l2)) a w:=by intro G e;rw[N6]at e;obtain⟨H,d,q⟩:=e;unfold wpList;rw[N5 G];refine .inl (I.stepU ok hf m d fun D' p w' v r J => ?_);subst v;obtain⟨y,rfl⟩:=r;exact Inv.runOps2 ok hf m n l (i+1) f J (u o (by simp) a y hd) q
  show wpList P ops Q (o::(l++l2)) a w;unfold Am.runOps at e;split at e
  ·rename_i s;exact x (by simp[Region.wanted,s]) e
  ·rename_i j z s;split at e
   case h_2=>cases e
   rename_i b hb;have A:yielded ops a.tmps j=b:=by rw[N6]at hb;obtain⟨t,v,r⟩:=hb;rw[tA]at r;have:=I.yieldAt r;unfold yielded;rw[v];exact this
   split at e
   ·rename_i g;exact x (by simp[Region.wanted,s,A,g]) e
   ·rename_i g;unfold wpList;rw[Oh (by simp[Region.wanted,s,A,g])];rw[N6]at e;obtain⟨H,d,q⟩:=e;split at d
    ·rename_i c;cases d;rw[c];exact Inv.runOps2 ok hf m n l (i+1) f I hd q
    ·rename_i t c;rw[eG]at d;split at d
     case isFalse=>cases d
     rename_i K;cases d;have:=I.putUndef K;have k:=u o (by simp) a undef hd;rw[c]at k ⊢;exact Inv.runOps2 (tk:=tk) ok hf m n l (i+1) f this k (by rw[wF];exact q)
theorem Inv.runOps {P:Program}{tab:Tab}(ok:bm P tab){fns:FuncId→Option Func}(hf:iX P fns){B:Base}{C:Sem1}{cx:Cx}(c:gP P B C cx){tk:Nat→Bool}{ops:Array Oper}{Q:Exit→Act→World→Prop}{U:US}
  {T:Act→Prop} (d:∀D' b w',erD D'=U→T b→Inv cx D' [] b.tmps w'→Q .normal b w') (l:List Oper) (i:Nat) {D:DSt} {a:Act} {w:World} (f:∀o∈l,∀a y,T a→T (a.put o.dst y)) (I:Inv cx D [] a.tmps w) (hd:T a)
  (e:Am.runOps tab fns C tk ops l i (erD D)=some U):wpList P ops Q l a w:=by
 have:=Inv.runOps2 (l2:=[]) (Q:=Q) ok hf c d l i f I hd e
 rwa [OC]at this
section
variable  {δ β : Type}
def kill1 (D:St δ β)(t:Nat):St δ β:=if t<D.length then aT D (some t) .any else D
def killAll (l:List Nat)(D:St δ β):St δ β:=l.foldl kill1 D
theorem ni (D:St δ β)(t:Nat):(kill1 D t).length=D.length:=by
 unfold kill1;split
 ·simp[aT,aU,St.dead]
 ·rfl
theorem mK (D:St δ β)(t u:Nat)(h:t<D.length):(kill1 D t)[u]?=if u=t then some .any else(D[u]?).map (Sl.clean t):=by
 unfold kill1;rw[N5 h];simp only[aT,aU];by_cases e:u=t
 ·subst e;rw[N5 rfl,Oi (by simp[St.dead];exact h)];rfl
 ·rw[Oh e,Ol (fun q=>e q.symm),Ol (fun q=>e q.symm)];simp only[St.dead,Ok,O6];rfl
theorem sD (l:List Nat):∀(D:St δ β),(killAll l D).length=D.length:=by
 induction l with
 |nil=>intro D;rfl
 |cons a l b=>intro D;simp only[killAll,Pz];exact(b _).trans (ni D a)
theorem uv:∀(l:List Nat){D D':St δ β},D.length=D'.length→(∀u,u∉l→D[u]?=D'[u]?)→killAll l D=killAll l D'
 |[],D,D',b,h=>Px fun u=>h u (by simp)
 |a::l,D,D',b,h=>by
  simp only[killAll,Pz];refine uv l (by rw[ni,ni,b]) fun u f => ?_
  by_cases c:a<D.length
  ·rw[mK D a u c,mK D' a u (b ▸ c)];by_cases e:u=a
   ·rw[N5 e,N5 e]
   ·rw[Oh e,Oh e,h u (by simp[e,f])]
  ·have d:¬a<D'.length:=b ▸ c;unfold kill1;rw[Oh c,Oh d];by_cases e:u=a
   ·subst e;rw[Ob (by omega),Ob (by omega)]
   ·exact h u (by simp[e,f])
end
theorem rG {δ β:Type}{t:Nat}:∀(l:List Nat){D:St δ β},t<D.length→t∈l∨D[t]?=some .any→(killAll l D)[t]?=some .any
 |[],D,_,h=>by
  rcases h with h|h
  ·cases h
  ·exact h
 |a::l,D,c,h=>by
  simp only[killAll,Pz];refine rG l (by rw[ni];exact c) ?_;by_cases b:a<D.length
  ·rw[mK D a t b];by_cases e:t=a
   ·right;rw[N5 e]
   ·rw[Oh e];rcases h with h|h
    ·left;simpa[e]using h
    ·right;rw[h];rfl
  ·rcases h with h|h
   ·left;have:t≠a:=by omega
    simpa[this]using h
   ·right;unfold kill1;rw[Oh b];exact h
theorem KX (D:DSt)(t:Nat):erD (kill1 D t)=kill1 (erD D) t:=by
 unfold kill1;rw[eG];split
 ·exact ca D (some t) .any
 ·rfl
theorem jx (l:List Nat):∀(D:DSt),erD (killAll l D)=killAll l (erD D):=by
 induction l with
 |nil=>intro D;rfl
 |cons a l b=>intro D;simp only[killAll,Pz];rw[←KX];exact b _
theorem Inv.kill1 {cx:Cx}{D:DSt}{tm:Array Value}{w:World}(I:Inv cx D [] tm w)(t:Nat):Inv cx (kill1 D t) [] tm w:=by
 unfold Am.kill1;split
 ·exact I.lose ‹_›
 ·exact I
theorem Inv.killAll {cx:Cx}{tm:Array Value}{w:World}(l:List Nat):∀{D:DSt},Inv cx D [] tm w→Inv cx (killAll l D) [] tm w:=by
 induction l with
 |nil=>intro D I;exact I
 |cons a l b=>intro D I;simp only[Am.killAll,Pz];exact b (I.kill1 a)
theorem Gf {p:Nat→Nat→Bool}{t u:DT}(h:t.dead p=u)(a:u.isOwn=true):t=u:=by
 cases t with
 |v x=>exact h
 |any=>exact h
 |s k d z r =>
  cases k with
  |own=>exact h
  |far=>exact h
  |lent b c e =>simp only[T.dead]at h;split at h<;>(subst h;cases a)
theorem p9 {D:DSt}{t h c:Nat}{u:DT}(e:aq (kill1 D t) h c=some u)(b:u.isOwn=true):aq D h c=some u:=by
 by_cases a:t<D.length
 ·unfold aq at e;rw[mK D t h a]at e;by_cases hh:h=t
  ·rw[N5 hh]at e;simp[aS]at e
  ·rw[Oh hh]at e;have:aq D h c=(D[h]?.bind aS).bind (·[c]?):=rfl;rw[this];cases hd:D[h]? with
   |none=>rw[hd]at e;simp at e
   |some s =>
    rw[hd]at e;simp only[N7,N4,Sl.clean,sB,sA]at e ⊢;cases hc:aS s with
    |none=>rw[hc]at e;simp at e
    |some cs =>rw[hc]at e;simp only[N7,N4,Ok]at e ⊢;rw[N9]at e;obtain⟨g,d,f⟩:=e;rw[d,Gf f b]
 ·unfold kill1 at e;rw[Oh a]at e;exact e
theorem Bf {D:DSt}{t h:Nat}{b:Nat×Nat}{ts:List DT}(e:(kill1 D t)[h]?=some (.box b ts)):∃c,D[h]?=some (.box b c):=by
 by_cases d:t<D.length
 ·rw[mK D t h d]at e;by_cases hh:h=t
  ·rw[N5 hh]at e;cases e
  ·rw[Oh hh,N9]at e;obtain⟨s,f,a⟩:=e;rw[f];cases s with
   |box g ts'=>simp only[Sl.clean,Sl.dead,Sl.gone]at a;cases a;exact⟨_,rfl⟩
   |al=>simp only[Sl.clean,Sl.dead]at a;split at a<;>cases a
   |pe=>simp only[Sl.clean,Sl.dead]at a;split at a<;>cases a
   |pb=>simp only[Sl.clean,Sl.dead,Sl.gone]at a;split at a<;>cases a
   |clo=>simp only[Sl.clean,Sl.dead,Sl.gone]at a;split at a<;>cases a
   |im k b ts off =>
    cases k with
    |lent=>simp only[Sl.clean,Sl.dead]at a;split at a<;>cases a
    |_=>cases a
   |_=>cases a
 ·unfold kill1 at e;rw[Oh d]at e;exact⟨ts,e⟩
theorem uC {D:DSt}{t h c:Nat}{st:List (Nat×Nat)}{d:Dec}{z n:Nat}(e:d7 (kill1 D t) h c st d z n):d7 D h c st d z n:=by obtain⟨u,b,a,f⟩:=e;exact⟨u,p9 b a,a,f⟩
theorem KE {D:DSt}{t:Nat}{s:DSl}{y:Value}(h:VS (kill1 D t) s y):VS D s y:=by
 cases s with
 |al j c st lo len=>obtain⟨d,z,n,a,e,g⟩:=h;exact⟨d,z,n,a,uC e,g⟩
 |pe j c st i off=>obtain⟨d,z,n,e,g⟩:=h;exact⟨d,z,n,uC e,g⟩
 |pb j off=>obtain⟨b,ts,e,g⟩:=h;obtain⟨k,l⟩:=Bf e;exact⟨b,k,l,g⟩
 |clo f hs =>obtain⟨m,e,g,l⟩:=h;refine⟨m,e,fun i j b hi hb => ?_,l⟩;obtain⟨ts,o⟩:=g i j b hi hb;exact Bf o
 |_=>exact h
theorem Fk {cx:Cx}{D:DSt}{t:Nat}{u:DT}(h:bz cx (kill1 D t) u):bz cx D u:=by
 cases u with
 |v x=>trivial
 |any=>trivial
 |s k d z r =>
  cases k with
  |own=>trivial
  |far=>exact h
  |lent e f g=>obtain⟨v,b,a,c⟩:=h;exact⟨v,p9 b a,a,c⟩
theorem Fj {cx:Cx}{D:DSt}{t:Nat}{s:DSl}(h:dV cx (kill1 D t) s):dV cx D s:=by
 cases s with
 |im k b ts off =>
  cases k with
  |own=>exact h
  |far=>exact h
  |lent g i j=>obtain⟨v,c,a,d⟩:=h;exact⟨v,p9 c a,a,d⟩
 |fni f caps=>exact h
 |_=>exact fun u e=>Fk (h u e)
theorem Tells.kill {cx:Cx}{w:World}{s:DSl}{y:Value}(l:List Nat):∀{D:DSt},Tells cx (killAll l D) w s y→Tells cx D w s y:=by
 induction l with
 |nil=>intro D h;exact h
 |cons a l c =>intro D h;simp only[Am.killAll,Pz]at h;have b:=c h;exact⟨KE b.val,b.mem,Fj b.kind,b.noown⟩
theorem rv {t:Nat}{s:DSl}(h:¬ct t s):s.clean t=s:=by
 have o:∀u:DT,¬(∃c g d z r,u = .s (.lent t c g) d z r)→u.dead (atH t)=u:=by
  intro u j;cases u with
  |v x=>rfl
  |any=>rfl
  |s k d z r =>
   cases k with
   |own=>rfl
   |far=>rfl
   |lent a l g =>
    have m:atH t a l=false:=by
     cases e:atH t a l with
     |false=>rfl
     |true =>
      have e:a=t:=by simpa[atH]using e
      subst e;exact absurd ⟨l,g,d,z,r,rfl⟩ j
    simp[T.dead,m]
 have n:∀us:List DT,¬(∃u∈us,∃c g d z r,u = .s (.lent t c g) d z r)→us.map (T.dead (atH t))=us:=by
  intro us j
  conv=>rhs;rw[←Qg us]
  exact OO fun u p=>o u fun⟨c,g,d,z,r,e⟩=>j ⟨u,p,c,g,d,z,r,e⟩
 unfold Sl.clean;cases s with
 |any=>rfl
 |one u=>simp only[Sl.dead,Sl.gone];rw[o u h]
 |agg ts=>simp only[Sl.dead,Sl.gone];rw[n ts h]
 |box b ts=>simp only[Sl.dead,Sl.gone];rw[n ts h]
 |al a c st lo len =>have:¬a=t:=h;simp[Sl.dead,Sl.gone,qH,this]
 |pe a c st i off =>have:¬a=t:=h;simp[Sl.dead,Sl.gone,qH,this]
 |pb a off =>have:¬a=t:=h;simp[Sl.dead,Sl.gone,this]
 |im k b ts off =>
  cases k with
  |own=>rfl
  |far=>rfl
  |lent a l g =>have:¬a=t:=h;simp[Sl.dead,Sl.gone,atH,this]
 |fni f caps=>rfl
 |clo f hs =>have:¬t∈hs:=h;simp[Sl.dead,Sl.gone,this]
 |tup rs =>
  simp only[Sl.dead,Sl.gone];congr 1
  conv=>rhs;rw[←Qg rs]
  refine OO fun r q => ?_
  rw[n r.2 fun⟨u,j,c,g,d,z,w,e⟩=>h ⟨r,q,u,j,c,g,d,z,w,e⟩];rfl
theorem lU {D:DSt}{t:Nat}{s:DSl}(b:∀s'∈D,¬ct t s')(hs:¬ct t s):aT D (some t) s=D.set t s:=by
 simp only[aT];rw[rv hs];have:(St.dead (atH t) (qH t) D).map (Sl.gone t)=D:=by
  simp only[St.dead,OQ]
  conv=>rhs;rw[←Qg D]
  exact OO fun s' a=>rv (b s' a)
 unfold aU;rw[this,List.set_set]
def bO (ops:Array Oper)(j:Nat):List Nat :=
 match ops[j]? with
 |some o=>(o.after.toList.filter (Region.binds .any)).map (·.on)
 |none=>[]
def cN (ops:Array Oper)(m:Nat):List Nat:=(List.range m).filterMap fun i=>(ops[i]?).bind (·.dst)
section
variable  {P : Program}{tab : Tab}
theorem Cg (ok:bm P tab){cx:Cx}{D D':DSt}{a:Act}{w:World}(I:Inv cx D [] a.tmps w){dst:Option Nat}{t:Nat}{l c:Operand}
  (e:ee mkD (frD w) tab D dst t l c=some D'):∃y w' d V z rows,dst=some d∧D'=aT D (some d) (.one (.s .own V z rows))∧(Instr.makeSlice t (a.eval l) (a.eval c)).run P w = .ok y w'∧Grew w w'∧IZ w w' (.s .own V z rows) y:=by
 unfold ee at e;split at e
 case h_2=>cases e
 rename_i sz W ze o d n k F X H;split at e
 case h_2=>cases e
 rename_i m J;split at e
 case isFalse=>cases e
 rename_i hc;split at e
 case isFalse=>cases e
 rename_i Y;cases e;obtain⟨hd,Z,K⟩:=hc;obtain⟨n1,n2,n3,n4⟩:=Y;have hu:=ff (Tab.ok ok F) rfl;obtain⟨i,d',z,g1,Q7,L,g4,g5,M,g7,g3⟩:=fz (Tab.ok ok J);have G:=jD (P:=P) (t:=o) (w:=w) (cx:=cx) (D:=D) (ys:=z.cells.toList) g3;rw[←M]at G;have B:z.cells.size=m.size:=by rw[←K,M];simp[dv]
 have A:∀t∈m.zero.map (T.inj nilD),t.fine=true:=by intro t C;rw[M]at C;simp only[Oo,dv,Pe]at C;obtain⟨u,⟨j,hj,rfl⟩,rfl⟩:=C;unfold zT;split<;>rfl
 obtain⟨kl,N⟩:=I.opInt X;obtain⟨kc,O⟩:=I.opInt H;have f:=run_make w t o i z hu g1 L kl kc n k n1 n2 (by rw[g5];exact n3) (by omega);rw[←N, ←O]at f;have R:=RowsAre.init G.v (by omega) k.toNat;have Q:(madeCells z.cells (k.toNat*i.size))=((Array.range (k.toNat*z.cells.size)).map (fun i=>z.cells[i % z.cells.size]!)):=by unfold madeCells;rw[g4,B]
 rw[Q]at f;rw[B]at R f;generalize p:(Array.range (k.toNat*m.size)).map (fun i=>z.cells[i % m.size]!)=cells at R f;have g:=Grew.alloc w (.cells cells o);have q:(w.alloc (.cells cells o)).heap[w.heap.size]?=some (.cells cells o (0,0)):=by show(w.heap.push _)[w.heap.size]?=_;simp
 have Q8:n.toNat≤k.toNat:=by omega
 have r:∀(i:Nat)(row:List DT),(List.replicate n.toNat (m.zero.map (T.inj nilD)))[i]?=some row→(List.replicate k.toNat (m.zero.map (T.inj nilD)))[i]?=some row:=by
  intro i row h;rw[Qr]at h ⊢;split at h
  ·rw[N5 (by omega)];exact h
  ·cases h
 have S:∀(i:Nat)(row:List DT)(j:Nat)(t:DT),(List.replicate n.toNat (m.zero.map (T.inj nilD)))[i]?=some row→row[j]?=some t→xK w t:=fun i row j t hi hj=>by have:=O8 (N8 hi);subst this;exact G.bare A t (N8 hj)
 have U:cells.size=k.toNat*m.size:=by rw[←p];simp
 have hH:Holds (w.alloc (.cells cells o)) (.s .own ((frD w).row k.toNat) m.size (List.replicate n.toNat (m.zero.map (T.inj nilD)))):=by refine .s _ _ _ _ rfl rfl _ o (0,0) q (by simp[frD];omega) (fun i row h=>R.row i row (r i row h)) (fun i row j t hi hj => ?_) (fun i row j t hi hj=>(S i row j t hi hj).holds.frame fun b _ hb=>g.same b hb);obtain⟨y,y1,y2⟩:=R.val i row j t (r i row hi) hj;exact⟨y,by simpa[frD]using y1,y2⟩
 have hO:OwnT (w.alloc (.cells cells o)) (.s .own ((frD w).row k.toNat) m.size (List.replicate n.toNat (m.zero.map (T.inj nilD)))):=by refine .s _ _ _ rfl rfl _ o 0 0 q (by simp[frD];omega) (by simp[frD,U]) (fun x _ _ h=>by omega) (fun i row j t hi hj => ?_);have:=S i row j t hi hj;exact(oG this.fine this.own).frame fun b _ hb=>g.same b hb
 have s:(List.replicate n.toNat (m.zero.map (T.inj mkD.nil))).flatMap (fun x=>x.flatMap Am.bl)=[]:=by rw[Ox];intro row hr;rw[Ox];intro t C;obtain⟨i,hi⟩:=Og hr;obtain⟨j,hj⟩:=Og C;exact(S i row j t hi hj).bl
 refine⟨_,_,d,(frD w).row k.toNat,m.size,_,rfl,rfl,f,g,⟨by simp[VT,Dec.addr,frD],hH,hO,?_,fun b hb => ?_⟩⟩
 ·intro b;rw[cl,s];simp only[frD,Oz,OZ,OC];rw[List.count_singleton];split<;>omega
 ·rw[cl,s]at hb;simp[frD]at hb;subst hb;exact⟨OP _,by simp⟩
end
def qd (M:US)(x:Operand)(i:Nat):Option (Sl Unit Unit):=
 match x with
 | .tmp q =>
  match M[q]? with
  |some (.tup rs)=>
   match rs[i]? with
   |some (false,[.v y])=>some (.one (.v y))
   |_=>none
  |_=>none
 |_=>none
theorem FK {M:US}{x:Operand}{i:Nat}{s:Sl Unit Unit}(h:qd M x i=some s):∃q rs y,x = .tmp q∧M[q]?=some (.tup rs)∧rs[i]?=some (false,[.v y])∧s = .one (.v y):=by
 unfold qd at h;split at h
 case h_2=>cases h
 rename_i q;split at h
 case h_2=>cases h
 rename_i rs a;split at h
 case h_2=>cases h
 rename_i y hi;cases h;exact⟨q,rs,y,rfl,a,hi,rfl⟩
theorem BX {P:Program}{cx:Cx}{D:DSt}{a:Act}{w:World}(I:Inv cx D [] a.tmps w){o:Oper}{x:Operand}{i:Nat}(j:o.op = .extract x i){s:Sl Unit Unit}(e:qd (erD D) x i=some s):
  ∃y,s = .one (.v y)∧(execOp a.eval o).run P w = .ok (.value y) w∧Tells cx D w (.one (.v y)) y:=by
 obtain⟨q,rs,y,rfl,u,hi,rfl⟩:=FK e;rw[bW,N9]at u;obtain⟨A,J,B⟩:=u;obtain⟨b,rfl,rfl⟩:∃b,A = .tup b∧rs=b.map fun r=>(r.1,erL r.2):=by
  cases A with
  |tup b=>exact⟨b,rfl,by simpa[Sl.er]using B.symm⟩
  |_=>simp[Sl.er]at B
 rw[Ok,N9]at hi;obtain⟨⟨g,ts⟩,l,c⟩:=hi;simp only[QR]at c;obtain⟨rfl,c⟩:=c;have K:ts=[.v y]:=by
  match ts,c with
  |[],c=>simp at c
  |[t],c =>
   simp only[Oq,OL,PA,Qf]at c;cases t with
   |v x=>rw[dx]at c;cases c;rfl
   |any=>cases c
   |s k d z r=>rw[aB]at c;cases c
  |t::t2::r,c=>simp at c
 subst K;obtain⟨h,L,C,f⟩:=I.val q _ J;have M:i<b.length:=by
  rcases Od i b.length with g|g
  ·exact g
  ·rw[Ob g]at l;cases l
 have F:=f i _ h.toList[i] l (Oa (by omega));simp only[VPart,Oz,OZ]at F;obtain⟨t',G,m⟩:=F;simp only[PA,Qf]at G;subst G;have n:a.eval (.tmp q)= .tuple h:=L;have hv:h[i]?=some y:=by have p:h.toList[i]=y:=m.1;rw[←p];simp
 refine⟨y,rfl,?_,Tells.one (t := .v y) ⟨rfl,by have p:h.toList[i]=y:=m.1;have H:=m.2;rw[p]at H;exact H⟩ (.v _) trivial rfl⟩;simp[execOp,j,n,Instr.extract,hv]
def stepV (tab:Tab)(fns:FuncId→Option Func)(C:Sem1)(M:US)(o:Oper):Option (Sl Unit Unit):=
 match callTo M o with
 |some (f,xs,caps)=>if(fns f).isSome∧tab.io.lookup f=none then(argsW mkU tab f M xs).bind fun as=>(C f (as++ims caps)).bind fun rs=>oy mkU rs else none
 |none =>
  match o.op with
  | .buildSlice t len a =>
   match o.dst with
   |some d=>(eb mkU frU tab M (some d) t len a.toList).bind fun U=>match U[d]? with|some (.one u)=>if u.isOwn then some (.one u)else none|_=>none
   |none=>none
  | .makeSlice t l c =>
   match o.dst with
   |some d=>(ee mkU frU tab M (some d) t l c).bind fun U=>match U[d]? with|some (.one u)=>if u.isOwn then some (.one u)else none|_=>none
   |none=>none
  | .alloc b=>(tab.ti b).map fun ti => .box () (ti.zero.map (T.inj ()))
  | .extract x i=>qd M x i
  | .move x=>match iy M x with|some rs=>some (.tup rs)|none=>bP mkU tab M (.move x)
  |op=>bP mkU tab M op
def DJ (ops:Array Oper)(M:US)(o:Oper)(K:Option (Sl Unit Unit)):Option (Sl Unit Unit):=
 match o.guard with
 |none=>K
 |some (j,a)=>
  match((ops[j]?).bind (·.dst)).bind (yieldAt M)with
  |some b=>if b=some a then K else some (.tup [])
  |none=>none
theorem EH {rd:dw}(hf:∀r∈rd,∀t∈r.2,t.fine=true){s:DSl}(h:oy mkD rd=some s)(t:Nat):¬ct t s:=by
 have f:∀r∈rd,∀u∈r.2,¬ ∃c j d z r,u=(.s (.lent t c j) d z r:DT):=by rintro r k u i ⟨c,j,d,z,m,rfl⟩;exact absurd (hf r k _ i) (by simp[T.fine])
 unfold oy at h;split at h
 ·rename_i r;split at h
  ·rename_i b row a;cases h;rintro⟨u,i,c,j,d,z,m,rfl⟩;unfold tX at a;split at a
   case h_2=>cases a
   unfold pU at a;split at a
   case h_2=>cases a
   split at a
   case isFalse=>cases a
   rename_i l;cases a;exact absurd (On.1 l _ i) (by simp[T.fine])
  obtain⟨g,ts⟩:=r;cases g with
  |true=>cases h;exact fun⟨u,i,e⟩=>f _ (OK _) u i e
  |false =>
   match ts,h with
   |[u],h=>cases h;exact fun e=>f _ (OK _) u (OK _) e
 ·cases h;exact fun⟨r,k,u,i,e⟩=>f r k u i e
theorem Inv.stepV {P:Program}{tab:Tab}(ok:bm P tab){fns:FuncId→Option Func}(hf:iX P fns){B:Base}{C:Sem1}{cx:Cx}(hC:gP P B C cx){D:DSt}{a:Act}{w:World}(I:Inv cx D [] a.tmps w)
  {l:List Nat} {o:Oper} {t:Nat} (hd:o.dst=some t) (W:D[t]?=some .any) {s:Sl Unit Unit} (e:Am.stepV tab fns C (Am.killAll l (erD D)) o=some s) {K:Act→World→Prop} {Q:Exit→Act→World→Prop}
  (Z:∀D' a' w',erD D'=(erD D).set t s→(∃y,a'=a.put o.dst y)→Inv cx D' [] a'.tmps w'→K a' w'):o.wp P a w K Q:=by
 have q:t<D.length:=by
  rcases Od t D.length with g|g
  ·exact g
  ·rw[Ob g]at W;cases W
 rw[←jx]at e;have X:=I.killAll l;unfold Am.stepV at e;split at e
 ·rename_i f xs caps hc;split at e
  case isFalse=>cases e
  rename_i R5;obtain⟨fn,R6⟩:=PU.1 R5.1;obtain⟨p1,p2,p3⟩:=hf f fn R6;rw[N6]at e;obtain⟨as,N,e⟩:=e;rw[N6]at e;obtain⟨rs,J,Y⟩:=e;rw[Dp]at N;obtain⟨ad,R7,rfl⟩:=N9.1 N;obtain⟨hA,hN⟩:=X.argsW (Out.nil cx _) R7;obtain⟨c,x,O,m,Q9,rfl,rfl,R8,R9⟩:=X.callTo hc;have Ra:=hA.ims R8;have Rb:∀s∈ad++ims O,s.isHome=false:=fun s hs=>(OD.1 hs).elim (hN s) (D5 s)
  have Q7:=hC.1 f _ rs J w [] (ad++ims O) _ (hC.2.at I (Out.nil cx D)) (by rw[Pg,Jo]) Ra;have H:=BG (w:=w) m Q9 R9 p1 p2 p3;unfold Oper.wp;rw[H];refine Q7.mono ?_;rintro e w' ⟨v,od,rd,rfl,g,p,hO,R⟩;have:=OutsOk.none Rb hO;subst this;rw[zY]at p;subst p;rw[Dz]at Y;obtain⟨A,R3,rfl⟩:=N9.1 Y;have F:Am.putRet mkD D o.dst rd=some (aT D (some t) A):=by rw[hd];simp only[Am.putRet];rw[N5 q,R3];rfl
  have G:=I.putRet (a:=a) g.grew R F;have L:aT D (some t) A=D.set t A:=lU (fun s' n=>by obtain⟨u,k⟩:=Og n;exact I.any_refs W (I.val u s' k) (I.kind s' n)) (EH (by simpa using R.fine) R3 t);rw[L]at G;exact Z _ _ _ (fM D t A) ⟨_,rfl⟩ G
 ·split at e
  ·rename_i bt len Rc m;rw[hd]at e;simp only at e;rw[N6]at e;obtain⟨U,k1,k2⟩:=e;rw[qT w]at k1;obtain⟨Re,k3,rfl⟩:=N9.1 k1;obtain⟨y,w',d',M,z,rows,j1,j2,j3,j4,S⟩:=zU ok X k3;cases j1;subst j2;have V:(erD (aT (Am.killAll l D) (some t) (.one (.s .own M z rows))))[t]?=some (.one (.s .own () z (rows.map erL))):=by
    rw[bW];have hl:t<(aU t (Am.killAll l D)).length:=by simp[aU,St.dead,sD];exact q
    simp only[aT];rw[Oi hl];simp[Sl.clean,Sl.dead,Sl.gone,T.dead,Sl.er,aB]
   rw[V]at k2;simp only[T.isOwn,OH]at k2;cases k2;have R:RetOk w [] w' [] [] [(false,[(.s .own M z rows:DT)])] y:=by
    refine⟨.inl ⟨_,rfl,?_⟩,fun r p u k => ?_,fun r p u k => ?_,fun r p u k _ => ?_,fun b => ?_,fun b hb => ?_⟩
    ·simp only[VPart,Oz,OZ];exact⟨_,rfl,S.val⟩
    ·rw[OE,Oc]at p;subst p;rw[Oc]at k;subst k;rfl
    ·rw[OE,Oc]at p;subst p;rw[Oc]at k;subst k;exact S.holds
    ·rw[OE,Oc]at p;subst p;rw[Oc]at k;subst k;exact S.own
    ·simpa[ownR,T.isOwn,bn]using S.once b
    ·have:=S.new b (by simpa[ownR,T.isOwn,bn]using hb);exact⟨.inl this.1,this.2⟩
   have F:Am.putRet mkD D o.dst [(false,[(.s .own M z rows:DT)])]=some (aT D (some t) (.one (.s .own M z rows))):=by rw[hd];simp only[Am.putRet];rw[N5 q];rfl
   have G:=I.putRet (a:=a) j4 R F;have L:aT D (some t) (.one (.s .own M z rows))=D.set t (.one (.s .own M z rows)):=lU (fun s' n=>by obtain⟨u,k⟩:=Og n;exact I.any_refs W (I.val u s' k) (I.kind s' n)) (fun⟨c,fl,d,z,r,h⟩=>by cases h);rw[L]at G;have H:(execOp a.eval o).run P w = .ok (.value y) w':=by simp[execOp,m,j3]
   unfold Oper.wp;rw[H];exact Z _ _ _ (by rw[fM];simp[Sl.er,aB]) ⟨_,rfl⟩ G
  ·rename_i bt lo hi m;rw[hd]at e;simp only at e;rw[N6]at e;obtain⟨U,k1,k2⟩:=e;rw[sn w]at k1;obtain⟨Re,k3,rfl⟩:=N9.1 k1;obtain⟨y,w',d',M,z,rows,j1,j2,j3,j4,S⟩:=Cg ok X k3;cases j1;subst j2;have V:(erD (aT (Am.killAll l D) (some t) (.one (.s .own M z rows))))[t]?=some (.one (.s .own () z (rows.map erL))):=by
    rw[bW];have hl:t<(aU t (Am.killAll l D)).length:=by simp[aU,St.dead,sD];exact q
    simp only[aT];rw[Oi hl];simp[Sl.clean,Sl.dead,Sl.gone,T.dead,Sl.er,aB]
   rw[V]at k2;simp only[T.isOwn,OH]at k2;cases k2;have R:RetOk w [] w' [] [] [(false,[(.s .own M z rows:DT)])] y:=by
    refine⟨.inl ⟨_,rfl,?_⟩,fun r p u k => ?_,fun r p u k => ?_,fun r p u k _ => ?_,fun b => ?_,fun b hb => ?_⟩
    ·simp only[VPart,Oz,OZ];exact⟨_,rfl,S.val⟩
    ·rw[OE,Oc]at p;subst p;rw[Oc]at k;subst k;rfl
    ·rw[OE,Oc]at p;subst p;rw[Oc]at k;subst k;exact S.holds
    ·rw[OE,Oc]at p;subst p;rw[Oc]at k;subst k;exact S.own
    ·simpa[ownR,T.isOwn,bn]using S.once b
    ·have:=S.new b (by simpa[ownR,T.isOwn,bn]using hb);exact⟨.inl this.1,this.2⟩
   have F:Am.putRet mkD D o.dst [(false,[(.s .own M z rows:DT)])]=some (aT D (some t) (.one (.s .own M z rows))):=by rw[hd];simp only[Am.putRet];rw[N5 q];rfl
   have G:=I.putRet (a:=a) j4 R F;have L:aT D (some t) (.one (.s .own M z rows))=D.set t (.one (.s .own M z rows)):=lU (fun s' n=>by obtain⟨u,k⟩:=Og n;exact I.any_refs W (I.val u s' k) (I.kind s' n)) (fun⟨c,fl,d,z,r,h⟩=>by cases h);rw[L]at G;have H:(execOp a.eval o).run P w = .ok (.value y) w':=by simp[execOp,m,j3]
   unfold Oper.wp;rw[H];exact Z _ _ _ (by rw[fM];simp[Sl.er,aB]) ⟨_,rfl⟩ G
  ·rename_i bt m;rw[N9]at e;obtain⟨ti,R4,rfl⟩:=e;have Rf:mB mkD (frD w) tab D (some t) bt=some (aT D (some t) (.box (frD w).box (ti.zero.map (T.inj mkD.nil)))):=by simp only[mB,R4];rw[N5 q]
   obtain⟨y,w',N,J⟩:=wY ok I Rf;obtain⟨z,g1,g2,g3⟩:=sY (Tab.ok ok R4) w;have Q8:∀t∈ti.zero.map (T.inj mkD.nil),t.fine=true:=by intro t ht;rw[g2]at ht;simp only[Oo,dv,Pe]at ht;obtain⟨u,⟨j,hj,rfl⟩,rfl⟩:=ht;unfold zT;split<;>rfl
   have L:aT D (some t) (.box (frD w).box (ti.zero.map (T.inj mkD.nil)))=D.set t (.box (frD w).box (ti.zero.map (T.inj mkD.nil))):=lU (fun s' n=>by obtain⟨u,k⟩:=Og n;exact I.any_refs W (I.val u s' k) (I.kind s' n)) (fun⟨u,k,c,fl,d,z,r,h⟩=>by have:=Q8 u k;rw[h]at this;simp[T.fine]at this);rw[L]at J;have H:(execOp a.eval o).run P w = .ok (.value y) w':=by simp[execOp,m,N]
   unfold Oper.wp;rw[H];rw[←hd]at J;exact Z _ _ _ (by rw[fM];show(erD D).set t (.box () (erL (ti.zero.map (T.inj mkD.nil))))=_;rw[←nQ]) ⟨_,rfl⟩ J
  ·rename_i x i m;obtain⟨y,rfl,N,J⟩:=BX (P:=P) X m e;have Y:=J.kill l;unfold Oper.wp;rw[N];have G:Inv cx (Am.putA D t (.one (.v y))) [] (a.put (some t) y).tmps w:=I.putA q Y;have L:Am.putA D t (.one (.v y))=D.set t (.one (.v y)):=by unfold Am.putA;rw[W]
   rw[L, ←hd]at G;exact Z _ _ _ (by rw[fM];simp[Sl.er,dx]) ⟨_,rfl⟩ G
  ·rename_i x m;rw[yL]at e;have I3:∀(A:DSl)(y:Value),(execOp a.eval o).run P w = .ok (.value y) w→Tells cx (Am.killAll l D) w A y→s=A.er→o.wp P a w K Q:=fun A y N J he=>by
    have Y:=J.kill l;unfold Oper.wp;rw[N];have G:Inv cx (Am.putA D t A) [] (a.put (some t) y).tmps w:=I.putA q Y;have L:Am.putA D t A=D.set t A:=by unfold Am.putA;rw[W]
    rw[L, ←hd]at G;exact Z _ _ _ (by rw[fM,he]) ⟨_,rfl⟩ G
   cases hT:iy (Am.killAll l D) x with
   |some rs =>rw[hT]at e;simp only[N7,OJ]at e;exact I3 (.tup rs) (a.eval x) (by simp[execOp,m]) (BM X hT) e.symm
   |none =>rw[hT]at e;simp only[Q2]at e;rw[xP]at e;obtain⟨A,e',rfl⟩:=N9.1 e;rw[←m]at e';obtain⟨y,N,J⟩:=ot ok X e';exact I3 A y N J rfl
  rw[xP]at e;obtain⟨A,e',rfl⟩:=N9.1 e;obtain⟨y,N,J⟩:=ot ok X e';have Y:=J.kill l;unfold Oper.wp;rw[N];have G:Inv cx (Am.putA D t A) [] (a.put (some t) y).tmps w:=I.putA q Y;have L:Am.putA D t A=D.set t A:=by unfold Am.putA;rw[W]
  rw[L, ←hd]at G;exact Z _ _ _ (fM D t A) ⟨_,rfl⟩ G
section
variable  {δ β : Type}
def T.isV:T δ→Bool| .v _=>true|_=>false
def fY:Sl δ β→Option (List (T δ))| .one u=>if u.isOwn=true then some [u]else none| .agg ts=>if ts.all (fun t=>t.isOwn ||t.isV)=true then some ts else none|_=>none
def iK:Sl δ β→Option (T δ)| .one (.v x)=>some (.v x)|_=>none
def fc (rd:Nat→Option (Sl δ β))(pl:List (Nat×Nat)):List (Nat×Operand)→List (T δ)→Option (List (T δ))
 |[],ts=>some ts
 |(i,x)::r,ts =>
  match x with
  | .tmp q =>
   match pl[i]?,(rd q).bind iK with
   |some (off,size),some t=>if 1=size∧off+1≤ts.length then fc rd pl r (an ts off [t])else none
   |_,_=>none
  |_=>none
def s9 (rs:List (Bool×List (T δ))):Bool:=rs.all (fun r=>r.2.all fun t=>t.isOwn ||t.isV) && !(rs.all fun r=>r.2.all T.flat)
def jp:Sl δ β→Option (List (Bool×List (T δ)))| .tup rs=>if s9 rs=true then some rs else none|_=>none
def takeSlot (o:Oper):Option Nat :=
 match o.op with
 | .buildSlice _ _ a=>match a.toList with|[(0,.tmp u)]=>some u|_=>none
 | .build _ a=>match a.toList with|(_,.tmp u)::_=>some u|_=>none
 | .move x=>match x with| .tmp u=>some u|_=>none
 |_=>none
def po (M:Mk δ β)(F:kU δ β)(tab:Tab)(rd:Nat→Option (Sl δ β))(o:Oper):Option (Sl δ β):=
 match o.op with
 | .buildSlice t len a =>
  match tab.ti t,a.toList with
  |some ⟨_,_,_,.slice e⟩,[(0,.tmp u)]=>
   match tab.ti e,(rd u).bind fY with
   |some b,some us=>if len=1∧b.size≠0∧b.zero.length=b.size∧b.size≤2 ^ 24∧us.length=b.size then some (.one (.s .own (F.row 1) b.size [us]))else none
   |_,_=>none
  |_,_=>none
 | .build t a =>
  match tab.ti t,tab.pl t,a.toList with
  |some ti,some pl,(i,.tmp u)::r =>
   match pl[i]?,(rd u).bind fY with
   |some (off,size),some us =>if us.length=size∧off+us.length≤(ti.zero.map (T.inj M.nil)).length then(fc rd pl r (an (ti.zero.map (T.inj M.nil)) off us)).map fun ts => .agg ts else none
   |_,_=>none
  |_,_,_=>none
 | .move x=>match x with| .tmp u=>((rd u).bind jp).map .tup|_=>none
 |_=>none
theorem Kc {x:Sl δ β}{t:T δ}(h:iK x=some t):∃y,x = .one (.v y)∧t = .v y:=by
 unfold iK at h;split at h
 ·cases h;exact⟨_,rfl,rfl⟩
 ·cases h
theorem rj {rd a:Nat→Option (Sl δ β)}(b:∀q x,rd q=some x→(iK x).isSome=true→a q=some x){pl:List (Nat×Nat)}:∀(r:List (Nat×Operand)){ts us:List (T δ)},
  fc rd pl r ts=some us→fc a pl r ts=some us
 |[],ts,us,h=>h
 |(i,x)::r,ts,us,h=>by
  simp only[fc]at h ⊢;split at h
  ·rename_i q;split at h
   ·rename_i off size t e c;rw[N6]at c;obtain⟨y,f,d⟩:=c;have g:=b q y f (by rw[d];rfl);simp only[e,g,N4,d];split at h
    ·rename_i hc;rw[N5 hc];exact rj b r h
    ·cases h
   ·cases h
  ·cases h
theorem KA {M:Mk δ β}{F:kU δ β}{tab:Tab}{rd a:Nat→Option (Sl δ β)}(m:∀q x,rd q=some x→(iK x).isSome=true→a q=some x)(l:∀q x,rd q=some x→(fY x).isSome=true→a q=some x)(n:∀q x,rd q=some x→(jp x).isSome=true→a q=some x){o:Oper}{s:Sl δ β}
  (h:po M F tab rd o=some s):po M F tab a o=some s:=by
 unfold po at h ⊢;split at h
 ·split at h
  ·rename_i d f;split at h
   ·rename_i v us g b;rw[N6]at b;obtain⟨y,e,c⟩:=b;have j:=l _ y e (by rw[c];rfl);simp only[d,f,g,j,N4,c];exact h
   ·cases h
  ·cases h
 ·split at h
  ·rename_i ti pl i u r d k f;split at h
   ·rename_i off size us hi b;rw[N6]at b;obtain⟨y,e,c⟩:=b;have j:=l _ y e (by rw[c];rfl);simp only[d,k,f,hi,j,N4,c];split at h
    ·rename_i hc;rw[N5 hc];rw[N9]at h ⊢;obtain⟨ts,p,t⟩:=h;exact⟨ts,rj m r p,t⟩
    ·cases h
   ·cases h
  ·cases h
 ·split at h
  ·rename_i u;rw[N9]at h;obtain⟨rs,b,rfl⟩:=h;rw[N6]at b;obtain⟨y,e,c⟩:=b;rw[n _ y e (by rw[c];rfl),N4,c];rfl
  ·cases h
 ·cases h
theorem xe (u:Nat)(D:St δ β):(aU u D).length=D.length:=by simp[aU,St.dead]
theorem DH {D:St δ β}{u q:Nat}{x:Value}(h:D[q]?=some (.one (.v x)))(a:q≠u):(aU u D)[q]?=some (.one (.v x)):=by unfold aU;rw[Ol (fun e=>a e.symm)];simp only[St.dead,Ok,h,N7];rfl
theorem Gi {M:Mk δ β}{D:St δ β}{q:Nat}{x:Value}(h:D[q]?=some (.one (.v x))):cellsCopy M D (.tmp q)=some (false,[.v x]):=by simp only[cellsCopy,opd,qa,h]
theorem pZ {M:Mk δ β}{D:St δ β}{u:Nat}(b:∀x,D[u]?≠some (.one (.v x))){pl:List (Nat×Nat)}:∀(r:List (Nat×Operand)){ts us:List (T δ)},fc (fun q=>D[q]?) pl r ts=some us→ce M (aU u D) pl r ts=some us
 |[],ts,us,h=>h
 |(i,x)::r,ts,us,h=>by
  simp only[fc]at h;simp only[ce];split at h
  ·rename_i q;split at h
   ·rename_i off size t f c;rw[N6]at c;obtain⟨y,d,g⟩:=c;obtain⟨v,rfl,rfl⟩:=Kc g;have a:q≠u:=fun e=>b v (e ▸ d)
    rw[f,Gi (DH d a)];simp only;split at h
    ·rename_i hc;rw[N5 (by simpa using hc)];exact pZ b r h
    ·cases h
   ·cases h
  ·cases h
theorem xJ {M:Mk δ β}{D:St δ β}{u:Nat}{x:Sl δ β}{us:List (T δ)}(h:D[u]?=some x)(a:fY x=some us):(∃g,cellsTake M D (.tmp u)=some (g,us,aU u D))∧us.all (fun t=>t.isOwn ||t.flat)=true∧∀y,D[u]?≠some (.one (.v y)):=by
 unfold fY at a;split at a
 ·rename_i t;split at a
  ·rename_i c;cases a;refine⟨⟨false,?_⟩,by simp[c],fun y e => ?_⟩
   ·simp only[cellsTake,h];rw[N5 c]
   ·rw[h]at e;cases e;cases c
  ·cases a
 ·rename_i ts;split at a
  ·rename_i b;cases a;refine⟨⟨true,?_⟩,?_,fun y e => ?_⟩
   ·simp only[cellsTake,h];rw[N5];rw[On]at b ⊢;intro t f;have:=b t f;cases t with
    |v x=>rfl
    |any=>rfl
    |s k d z r=>cases k<;>first|rfl|(simp[T.isOwn,T.isV]at this)
   ·rw[On]at b ⊢;intro t f;have:=b t f;cases t with
    |v x=>rfl
    |any=>simp[T.isOwn,T.isV]at this
    |s k d z r=>cases k<;>first|rfl|(simp[T.isOwn,T.isV]at this)
   ·rw[h]at e;cases e
  ·cases a
 ·cases a
theorem KB {x:Sl δ β}{rs:List (Bool×List (T δ))}(h:jp x=some rs):x = .tup rs∧(rs.all fun r=>r.2.all T.noLent)=true∧(rs.all fun r=>r.2.all T.flat)=false:=by
 unfold jp at h;split at h
 ·rename_i rs';split at h
  ·rename_i a;cases h;unfold s9 at a;rw[Ow]at a;refine⟨rfl,?_,by simpa using a.2⟩;rw[On];intro r b;rw[On];intro t c;have:=On.1 (On.1 a.1 r b) t c;cases t with
   |v x=>rfl
   |any=>rfl
   |s k d z r=>cases k<;>first|rfl|(simp[T.isOwn,T.isV]at this)
  ·cases h
 ·cases h
theorem CL {M:Mk δ β}{F:kU δ β}{tab:Tab}{D:St δ β}{o:Oper}{t u:Nat}(hd:o.dst=some t)(a:takeSlot o=some u)(p:t<D.length){s:Sl δ β}(z:aU u D=D.set u .any)(h:po M F tab (fun q=>D[q]?) o=some s):
  cS M F tab D o true=some (aT (aU u D) (some t) s):=by
 unfold po at h;unfold takeSlot at a;unfold cS;split at h
 ·rename_i A len d b;simp only[b]at a ⊢;split at h
  ·rename_i sz B K e u' f k;simp only[k]at a;cases a;split at h
   ·rename_i L us v c;rw[N6]at c;obtain⟨x,j,l⟩:=c;obtain⟨⟨g,m⟩,n,_⟩:=xJ (M:=M) j l;split at h
    ·rename_i hc;cases h;rw[N5 trivial];simp only[iR,f,hd,k,v,m];rw[N5 ⟨hc.1,by rw[xe];exact p,hc.2.1,hc.2.2.1,hc.2.2.2.1,hc.2.2.2.2,n⟩]
    ·cases h
   ·cases h
  ·cases h
 ·rename_i A d b;simp only[b]at a ⊢;split at h
  ·rename_i ti pl i u' r f w k;simp only[k]at a;cases a;split at h
   ·rename_i off size us hi c;rw[N6]at c;obtain⟨x,j,l⟩:=c;obtain⟨⟨g,m⟩,n,C⟩:=xJ (M:=M) j l;split at h
    ·rename_i hc;rw[N9]at h;obtain⟨ts,G,rfl⟩:=h;rw[N5 trivial];refine Dg ?_;simp only[mY,f,w,k,hd,hi,m];rw[N5 ⟨hc.1,hc.2,by rw[xe];exact p⟩,pZ C r G];rfl
    ·cases h
   ·cases h
  ·cases h
 ·rename_i x b;simp only[b]at a ⊢;split at h
  ·rename_i u';cases a;rw[N9]at h;obtain⟨rs,a,rfl⟩:=h;rw[N6]at a;obtain⟨y,j,l⟩:=a;obtain⟨rfl,m,n⟩:=KB l;have H:qt tab o.type (.tmp u)=none:=rfl;have I:iy D (.tmp u)=none:=by simp only[iy,j];rw[Oh (fun q=>by rw[n]at q;cases q.1)]
   have J:lA D (.tmp u) o.dst=some (aT (D.set u .any) (some t) (.tup rs)):=by simp only[lA,hd,j];rw[N5 ⟨p,m⟩]
   simp only[H,I,J,OH];rw[z]
  ·cases h
 ·cases h
end
theorem Jp (t:DT):t.er.isV=t.isV:=by
 cases t with
 |v x=>rfl
 |any=>rfl
 |s k d z r=>simp[aB,T.isV]
theorem Jz (x:DSl):fY x.er=(fY x).map erL:=by
 cases x with
 |one u =>simp only[Sl.er,fY,cR];split<;>rfl
 |agg ts =>
  simp only[Sl.er,fY];have:(erL ts).all (fun t=>t.isOwn ||t.isV)=ts.all (fun t=>t.isOwn ||t.isV):=by show(ts.map T.er).all _=_;rw[O9];congr 1;funext t;show(t.er.isOwn ||t.er.isV)=_;rw[cR,Jp]
  rw[this];split<;>rfl
 |_=>rfl
theorem JA (x:DSl):jp x.er=(jp x).map (List.map fun r=>(r.1,erL r.2)):=by
 cases x with
 |tup rs =>
  simp only[Sl.er,jp];have a:∀l:List DT,(erL l).all (fun t=>t.isOwn ||t.isV)=l.all (fun t=>t.isOwn ||t.isV):=fun l=>by show(l.map T.er).all _=_;rw[O9];congr 1;funext t;show(t.er.isOwn ||t.er.isV)=_;rw[cR,Jp]
  have b:∀l:List DT,(erL l).all T.flat=l.all T.flat:=fun l=>by show(l.map T.er).all _=_;rw[O9];congr 1;funext t;exact sj t
  have:s9 (rs.map fun r=>(r.1,erL r.2))=s9 rs:=by
   unfold s9;rw[O9,O9];congr 1
   ·congr 1;funext r;exact a r.2
   ·congr 2;funext r;exact b r.2
  rw[this];split<;>rfl
 |_=>rfl
theorem Jv (x:DSl):iK x.er=(iK x).map T.er:=by
 cases x with
 |one u =>
  cases u with
  |v y=>rfl
  |any=>rfl
  |s k d z r=>simp[Sl.er,aB,iK]
 |_=>rfl
theorem uq (D:DSt)(pl:List (Nat×Nat)):∀(r:List (Nat×Operand))(ts:List DT),fc (fun q=>(erD D)[q]?) pl r (erL ts)=(fc (fun q=>D[q]?) pl r ts).map erL
 |[],ts=>rfl
 |(i,x)::r,ts=>by
  simp only[fc];split
  ·rename_i q;have e:((erD D)[q]?).bind iK=((D[q]?).bind iK).map T.er:=by
    rw[bW];cases D[q]? with
    |none=>rfl
    |some y=>simp only[N7,N4,Jv]
   rw[e];cases pl[i]? with
   |none=>rfl
   |some os =>
    obtain⟨off,size⟩:=os;cases(D[q]?).bind iK with
    |none=>rfl
    |some t =>
     simp only[N7,OF];split
     ·have a:an (erL ts) off [t.er]=erL (an ts off [t]):=(kE ts off [t]).symm;rw[a];exact uq D pl r _
     ·rfl
  ·rfl
theorem LS (w:World)(tab:Tab)(D:DSt)(o:Oper):po mkU frU tab (fun q=>(erD D)[q]?) o=(po mkD (frD w) tab (fun q=>D[q]?) o).map Sl.er:=by
 have b:∀u,((erD D)[u]?).bind fY=((D[u]?).bind fY).map erL:=fun u=>by
  rw[bW];cases D[u]? with
  |none=>rfl
  |some y=>simp only[N7,N4,Jz]
 unfold po;split
 ·split
  ·rename_i sz c j e u a d;simp only[b];cases tab.ti e with
   |none=>rfl
   |some k =>
    cases(D[u]?).bind fY with
    |none=>rfl
    |some us =>
     simp only[N7,OF];split
     ·simp only[N7,Sl.er,aB,Oq,OL]
     ·rfl
  ·rfl
 ·split
  ·rename_i ti pl i u r a f d;simp only[b];cases pl[i]? with
   |none=>rfl
   |some os =>
    obtain⟨off,size⟩:=os;cases(D[u]?).bind fY with
    |none=>rfl
    |some us =>
     simp only[N7,OF];split
     ·have g:an (ti.zero.map (T.inj mkU.nil)) off (erL us)=erL (an (ti.zero.map (T.inj mkD.nil)) off us):=by rw[nQ,kE]
      rw[g,uq];cases fc (fun q=>D[q]?) pl r (an (ti.zero.map (T.inj mkD.nil)) off us)with
      |none=>rfl
      |some ts=>simp only[N7,Sl.er]
     ·rfl
  ·rfl
 ·split
  ·rename_i u h;show(((erD D)[u]?).bind jp).map Sl.tup=(((D[u]?).bind jp).map Sl.tup).map Sl.er;rw[bW];cases D[u]? with
   |none=>rfl
   |some y =>
    simp only[N7,N4,JA];cases jp y with
    |none=>rfl
    |some rs=>rfl
  ·rfl
 ·rfl
theorem ry {p:Nat→Nat→Bool}{t:DT}(h:((t.dead p).isOwn ||(t.dead p).isV)=true):t.dead p=t:=by
 cases t with
 |v x=>rfl
 |any=>rfl
 |s k d z r =>
  cases k with
  |own=>rfl
  |far=>rfl
  |lent b c e =>
   simp only[T.dead]at h ⊢;split
   ·rename_i a;rw[N5 a]at h;simp[T.isOwn,T.isV]at h
   ·rfl
theorem D7 {D:DSt}{a q:Nat}{x:DSl}(h:(kill1 D a)[q]?=some x)(hx:(fY x).isSome=true∨(iK x).isSome=true∨(jp x).isSome=true):D[q]?=some x:=by
 by_cases e:a<D.length
 ·rw[mK D a q e]at h;split at h
  ·cases h;rcases hx with hx|hx|hx<;>cases hx
  ·rw[N9]at h;obtain⟨y,j,m⟩:=h;rw[j];congr 1;subst m;cases y with
   |any=>rfl
   |one u =>
    simp only[Sl.clean,Sl.dead,Sl.gone]at hx ⊢;rw[ry];rcases hx with hx|hx|hx
    ·simp only[fY]at hx;split at hx
     ·rename_i n;simp[n]
     ·cases hx
    ·unfold iK at hx;split at hx
     ·rename_i v w;cases o:(u.dead (atH a))<;>simp_all[T.isV]
     ·cases hx
    ·cases hx
   |agg ts =>
    simp only[Sl.clean,Sl.dead,Sl.gone]at hx ⊢;rcases hx with hx|hx|hx
    ·simp only[fY]at hx;split at hx
     ·rename_i c;rw[On]at c;have:=OO (f:=T.dead (atH a)) (g:=id) (l:=ts) fun t d=>ry (c _ (PO d))
      rw[Qg]at this;rw[this]
     ·cases hx
    ·cases hx
    ·cases hx
   |box b ts=>simp only[Sl.clean,Sl.dead,Sl.gone]at hx;rcases hx with hx|hx|hx<;>cases hx
   |al=>simp only[Sl.clean,Sl.dead]at hx ⊢;split at hx<;>(rcases hx with hx|hx|hx<;>cases hx)
   |pe=>simp only[Sl.clean,Sl.dead]at hx ⊢;split at hx<;>(rcases hx with hx|hx|hx<;>cases hx)
   |pb=>simp only[Sl.clean,Sl.dead,Sl.gone]at hx ⊢;split at hx<;>(rcases hx with hx|hx|hx<;>cases hx)
   |clo=>simp only[Sl.clean,Sl.dead,Sl.gone]at hx ⊢;split at hx<;>(rcases hx with hx|hx|hx<;>cases hx)
   |im k b ts off =>
    cases k with
    |lent=>simp only[Sl.clean,Sl.dead]at hx ⊢;split at hx<;>(rcases hx with hx|hx|hx<;>cases hx)
    |_=>rcases hx with hx|hx|hx<;>cases hx
   |fni f caps=>rcases hx with hx|hx|hx<;>cases hx
   |tup rs =>
    simp only[Sl.clean,Sl.dead,Sl.gone]at hx ⊢;rcases hx with hx|hx|hx
    ·cases hx
    ·cases hx
    ·simp only[jp]at hx;split at hx
     ·rename_i c;unfold s9 at c;rw[Ow]at c;have:=OO (f:=fun r:Bool×List DT=>(r.1,r.2.map (T.dead (atH a)))) (g:=id) (l:=rs) fun r p=>by
       have s:=On.1 c.1 (r.1,r.2.map (T.dead (atH a))) (PO p);have i:=OO (f:=T.dead (atH a)) (g:=id) (l:=r.2) fun t d=>ry (On.1 s _ (PO d))
       rw[Qg]at i;show(r.1,_)=r;rw[i]
      rw[Qg]at this;rw[this]
     ·cases hx
 ·unfold kill1 at h;rw[Oh e]at h;exact h
theorem ld:∀(l:List Nat){D:DSt}{q:Nat}{x:DSl},(killAll l D)[q]?=some x→(fY x).isSome=true∨(iK x).isSome=true∨(jp x).isSome=true→D[q]?=some x
 |[],D,q,x,h,_=>h
 |a::l,D,q,x,h,b=>by simp only[killAll,Pz]at h;exact D7 (ld l h b) b
def T.lentTo {δ:Type}(t:Nat):T δ→Bool| .s (.lent h _ _) _ _ _=>h==t|_=>false
def dL {δ β:Type}(t:Nat):Sl δ β→Bool| .al h _ _ _ _=>h==t| .pe h _ _ _ _=>h==t| .pb h _=>h==t| .clo _ hs=>hs.contains t| .im (.lent h _ _) _ _ _=>h==t| .one u=>u.lentTo t| .agg ts=>ts.any (T.lentTo t)| .box _ ts=>ts.any (T.lentTo t)| .tup rs=>rs.any fun r=>r.2.any (T.lentTo t)|_=>false
theorem MB {t:Nat}{s:DSl}(h:ct t s):dL t s.er=true:=by
 have g:∀(ts:List DT),(∃u∈ts,∃c e d z r,u = .s (.lent t c e) d z r)→(erL ts).any (T.lentTo t)=true:=by rintro ts ⟨u,j,c,e,d,z,r,rfl⟩;rw[Pt];exact⟨_,PO j,by simp[aB,T.lentTo]⟩
 cases s with
 |any=>cases h
 |one u=>obtain⟨c,e,d,z,r,rfl⟩:=h;simp[Sl.er,aB,dL,T.lentTo]
 |agg ts=>exact g ts h
 |box b ts=>exact g ts h
 |al a c st lo len=>simp only[ct]at h;subst h;simp[Sl.er,dL]
 |pe a c st i off=>simp only[ct]at h;subst h;simp[Sl.er,dL]
 |pb a off=>simp only[ct]at h;subst h;simp[Sl.er,dL]
 |im k b ts off =>
  cases k with
  |lent a c e=>simp only[ct]at h;subst h;simp[Sl.er,dL]
  |_=>cases h
 |fni f caps=>cases h
 |clo f hs =>have a:t∈hs:=h;simp[Sl.er,dL,a]
 |tup rs =>obtain⟨r,l,j⟩:=h;simp only[Sl.er,dL];rw[Pt];exact⟨_,PO l,g r.2 j⟩
theorem Et {t:Nat}{s:DSl}(h:dL t s.er=false):¬ct t s:=fun q=>by rw[MB q]at h;cases h
theorem vq {D:DSt}{u:Nat}(b:∀s∈D,¬ct u s):aU u D=D.set u .any:=by
 have:(St.dead (atH u) (qH u) D).map (Sl.gone u)=D:=by
  simp only[St.dead,OQ]
  conv=>rhs;rw[←Qg D]
  exact OO fun s' a=>rv (b s' a)
 unfold aU;rw[this]
theorem Inv.stepT {P:Program}{tab:Tab}(ok:bm P tab){cx:Cx}{D:DSt}{a:Act}{w:World}(I:Inv cx D [] a.tmps w){l:List Nat}{o:Oper}{t u:Nat}(hd:o.dst=some t)(k:D[t]?=some .any)(v:Am.takeSlot o=some u)
  (z:∀s∈erD D,dL u s=false) {s:Sl Unit Unit} (e:po mkU frU tab (fun q=>(Am.killAll l (erD D))[q]?) o=some s) (hs:dL t s=false) {K:Act→World→Prop} {Q:Exit→Act→World→Prop}
  (A:∀D' m w',erD D'=((erD D).set u .any).set t s→(∃y,m=a.put o.dst y)→Inv cx D' [] m.tmps w'→K m w'):o.wp P a w K Q:=by
 have n:t<D.length:=by
  rcases Od t D.length with g|g
  ·exact g
  ·rw[Ob g]at k;cases k
 rw[←jx,LS w]at e;obtain⟨B,C,rfl⟩:=N9.1 e;have F:po mkD (frD w) tab (fun q=>D[q]?) o=some B:=KA (fun q x c d=>ld l c (.inr (.inl d))) (fun q x c d=>ld l c (.inl d)) (fun q x c d=>ld l c (.inr (.inr d))) C;have f:∀s∈D,¬ct u s:=fun s hs=>Et (z s.er (PO hs))
 have p:∀s∈D,¬ct t s:=fun s' b=>by obtain⟨i,hi⟩:=Og b;exact I.any_refs k (I.val i s' hi) (I.kind s' b)
 have r:=CL hd v n (vq f) F;rw[vq f,lU (fun s' b=>by
  rcases Pa b with h|rfl
  ·exact p s' h
  ·exact fun h=>h) (Et hs)]at r
 obtain⟨G,w',c,d⟩:=zC ok I r;unfold Oper.wp;rw[c];cases d with
 |value y h=>exact A _ _ _ (by rw[fM,fM];rfl) ⟨_,rfl⟩ h
 |skip j h=>rw[hd]at j;cases j
def tko (tk:Nat→Bool)(ops:Array Oper)(j:Nat):Option Nat:=if tk j=true then(ops[j]?).bind fun o=>if o.guard.isNone=true then takeSlot o else none else none
def gy (tk:Nat→Bool)(ops:Array Oper)(m:Nat):List Nat:=(List.range m).filterMap (tko tk ops)
def lz (tk:Nat→Bool)(ops:Array Oper)(m j:Nat):List Nat:=(List.range m).filterMap fun k=>if k=j then none else tko tk ops k
def iD (tk:Nat→Bool)(ops:Array Oper)(m:Nat)(anc:List (List Nat))(j:Nat):List Nat :=
 (List.range m).filterMap fun i=>match(ops[i]?).bind (·.dst)with
  |some t=>if((anc.getD j []).contains i && !((lz tk ops m j).contains t))=true then none else some t
  |none=>none
def CS (tk:Nat→Bool)(ops:Array Oper)(m:Nat)(anc:List (List Nat)):Bool :=
 decide (m≤ops.size) &&
 (List.range ops.size).all (fun j=>(bO ops j).all fun i=>decide (i<j)) &&
 (List.range m).all (fun j=>((ops[j]?).bind (·.dst)).isSome)&&decide ((cN ops m).Nodup) &&
 (List.range ops.size).all (fun j=>(anc.getD j []).all fun i=>(bO ops j).contains i ||(bO ops j).any fun k=>(anc.getD k []).contains i) &&
 (List.range ops.size).all (fun j=>decide (j<m)||(List.range j).all fun i=>(bO ops j).contains i ||(bO ops j).any fun k=>(anc.getD k []).contains i) &&
 (List.range m).all (fun k=>match tko tk ops k with
  |some u=>(List.range m).any (fun i=>(anc.getD k []).contains i&&decide ((ops[i]?).bind (·.dst)=some u)) && !((lz tk ops m k).contains u)
  |none=>true)
def evM (tab:Tab)(fns:FuncId→Option Func)(C:Sem1)(tk:Nat→Bool)(ops:Array Oper)(m:Nat)(anc:List (List Nat))(j:Nat)(U:US):Option (Sl Unit Unit):=
 match ops[j]? with
 |some o =>
  match o.dst with
  |some t =>
   (match tko tk ops j with
    |none=>DJ ops (killAll (iD tk ops m anc j) U) o (stepV tab fns C (killAll (iD tk ops m anc j) U) o)
    |some _=>po mkU frU tab (fun q=>(killAll (iD tk ops m anc j) U)[q]?) o).bind fun s=>if(t::gy tk ops m).all (fun v => !dL v s)=true then some s else none
  |none=>none
 |none=>none
def mu (tk:Nat→Bool)(ops:Array Oper)(j:Nat)(U:US):US:=match tko tk ops j with|none=>U|some u=>U.set u .any
def stepM (tab:Tab)(fns:FuncId→Option Func)(C:Sem1)(tk:Nat→Bool)(ops:Array Oper)(m:Nat)(anc:List (List Nat))(U:US)(j:Nat):Option US :=
 match(ops[j]?).bind (·.dst)with
 |some t =>
  match U[t]? with
  |some .any=>(evM tab fns C tk ops m anc j U).map fun s=>(mu tk ops j U).set t s
  |_=>none
 |none=>none
def lW (tab:Tab)(fns:FuncId→Option Func)(C:Sem1)(tk:Nat→Bool)(ops:Array Oper)(m:Nat)(anc:List (List Nat)):Nat→Nat→US→Option US| 0,_,U=>some U|n+1,j,U=>(stepM tab fns C tk ops m anc U j).bind (lW tab fns C tk ops m anc n (j+1))
def runD (tab:Tab)(fns:FuncId→Option Func)(C:Sem1)(tk:Nat→Bool)(ops:Array Oper)(m:Nat)(anc:List (List Nat))(D:US):Option US :=if CS tk ops m anc&&(cN ops m).all (fun t=>decide (t<D.length))&&(killAll (cN ops m) D).all (fun s=>(gy tk ops m).all fun u => !dL u s)then (lW tab fns C tk ops m anc m 0 (killAll (cN ops m) D)).bind (runOps tab fns C tk ops (ops.toList.drop m) m)else none
theorem Lr {tk:Nat→Bool}{ops:Array Oper}{j u:Nat}{o:Oper}(a:ops[j]?=some o)(h:tko tk ops j=some u):takeSlot o=some u∧o.guard=none:=by
 unfold tko at h;split at h
 ·rw[a,N4]at h;split at h
  ·rename_i b;exact⟨h,QX.1 b⟩
  ·cases h
 ·cases h
end Go.Proofs.YtkgecjmfkcohkaaGreatDoor.Am
