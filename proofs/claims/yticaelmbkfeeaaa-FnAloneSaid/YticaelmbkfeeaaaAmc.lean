/- An abstract machine over trees: paths, loops, and what functions tell. Conditions: none. -/
import Derived.Test.YticaelmbkfeeaaaAmd
import Derived.Below
import Derived.Sort.Row
import Derived.KernelRfl
namespace Go.Proofs.Yticaelmbkfeeaaa.Am
open Go
set_option linter.unusedVariables false
set_option linter.unusedSimpArgs false
inductive Dc where|b (x:Bool)|no|val (z:Value)|row (r:List (T Unit))|rows (r:List (List (T Unit)))|ret (rs:URes)|lp (e:Exit) (D:US)
abbrev PM (α:Type):=Option (α×List Dc×List Prop)
def bq:List Prop→Prop|[]=>True| φ::a=>φ∧bq a
theorem bM:∀{φ ψ:List Prop},bq (φ++ψ)→bq φ∧bq ψ
 |[],ψ,h=>⟨trivial,h⟩
 |a::φ,ψ,h=>by obtain⟨b,c⟩:=h;obtain⟨d,e⟩:=bM c;exact⟨⟨b,d⟩,e⟩
def bh (p:List Dc){α:Type}(x:Option α):PM α:=x.map fun s=>(s,p,[])
def pT:T Unit→List (Nat×Nat)→List Dc→PM (T Unit)
 |u,[],p=>some (u,p,[])
 | .s _ _ _ rows,(i,c)::st,.row row::r =>
  match row[c]? with
  |some v=>match pT v st r with|some (x,q,φ)=>some (x,q,(rows[i]?=some row)::φ)|none=>none
  |none=>none
 |_,_,_=>none
theorem o5:∀(st:List (Nat×Nat)){u x:T Unit}{p q:List Dc}{φ:List Prop},pT u st p=some (x,q,φ)→bq φ→getN u st=some x
 |[],u,x,p,q,φ,h,b=>by cases u<;>(cases h;rfl)
 |(i,c)::st,u,x,p,q,φ,h,b=>by
  unfold pT at h;split at h
  ·rename_i a;cases a
  ·rename_i rows g j d row r a;cases a;split at h
   ·rename_i v hv;split at h
    ·rename_i k l m e;cases h;have f:=o5 st e b.2;show((rows[i]?).bind (·[c]?)).bind (getN · st)=_;rw[b.1,BU,hv,BU,f]
    ·cases h
   ·cases h
  ·cases h
def tx (tab:Tab)(D:US)(t:Nat)(x:Sl Unit Unit)(n:Int)(p:List Dc):PM (Sl Unit Unit):=
 match x with
 | .one (.s k _ z rows)=>
  match p,tab.ti t with
  | .row row::r,some ⟨_,_,_,.slice e⟩=>if k = .own then none else if((tab.ti e).map (·.size))=some z then some (.im k () row 0,r,[0≤n∧rows[n.toNat]?=some row])else none
  |_,_=>none
 | .al h c st lo len =>
  match tab.ti t,ah D h c with
  |some ⟨_,_,_,.slice e⟩,some u =>
   match pT u st p with
   |some (.s _ _ z _,r,φ)=>if((tab.ti e).map (·.size))=some z then some (.pe h c st (lo+n.toNat) 0,r,(0≤n∧n<(len:Int))::φ)else none
   |_=>none
  |_,_=>none
 |_=>none
def t8 (tab:Tab)(D:US)(t:Nat)(x:Sl Unit Unit)(lo hi:Option Int)(p:List Dc):PM (Sl Unit Unit):=
 match x with
 | .one (.v (.string s))=>
  if((tab.ti t).map (·.sh))=some .str then
   some (.one (.v (.string (s.extract (lo.getD 0).toNat (hi.getD s.size).toNat))),p,[0≤lo.getD 0∧lo.getD 0≤hi.getD s.size∧hi.getD s.size≤(s.size:Int)])
  else none
 | .one (.s k _ z rows)=>
  if k = .own then none else
  match p,tab.ti t with
  | .rows R::r,some ⟨_,_,_,.slice e⟩=>
   if((tab.ti e).map (·.size))=some z then
    some (.one (.s k.unr () z R),r,[0≤lo.getD 0∧lo.getD 0≤hi.getD rows.length∧hi.getD rows.length≤(rows.length:Int),(rows.drop (lo.getD 0).toNat).take ((hi.getD rows.length).toNat-(lo.getD 0).toNat)=R])
   else none
  |_,_=>none
 | .al h c st l len =>
  match tab.ti t with
  |some ⟨_,_,_,.slice e⟩=>
   if((tab.ti e).map (·.size))=i6 D h c st then
    some (.al h c st (l+(lo.getD 0).toNat) ((hi.getD len).toNat-(lo.getD 0).toNat),p,[0≤lo.getD 0∧lo.getD 0≤hi.getD len∧hi.getD len≤(len:Int)])
   else none
  |_=>none
 |_=>none
def wt (D:US)(ti:TI)(s:Sl Unit Unit)(p:List Dc):PM (Sl Unit Unit):=
 match s,p with
 | .pe h c st i o,.row b::d =>
  match ah D h c with
  |some u =>
   if u.isOwn then
    match pT u st (.row b::d)with
    |some (.s _ _ _ rows,.row row::r,φ)=>
     if o+ti.size≤row.length then
      if ti.sh.agg then some (.agg (((row.drop o).take ti.size).map (T.view (.lent h c false))),r,(rows[i]?=some row)::φ)else
      match(row.drop o).take ti.size with
      |[.s .own _ _ a]=>some (.al h c (st++[(i,o)]) 0 a.length,r,(rows[i]?=some row)::φ)
      |[u]=>some (.one (u.view (.lent h c false)),r,(rows[i]?=some row)::φ)
      |_=>none
     else none
    |_=>none
   else none
  |none=>none
 |_,_=>bh p (d9 D ti s)
theorem aG {α:Type}{p r:List Dc}{x:Option α}{s:α}{φ:List Prop}(h:bh p x=some (s,r,φ)):x=some s:=by unfold bh at h;rw[BS]at h;obtain⟨a,b,c⟩:=h;cases c;exact b
theorem xt {tab:Tab}{D:US}{t:Nat}{x s:Sl Unit Unit}{n:Int}{p r:List Dc}{φ:List Prop}(h:tx tab D t x n p=some (s,r,φ))(c:bq φ):dD mkU D tab t x n=some s:=by
 unfold tx at h;unfold dD;split at h
 ·split at h
  ·rename_i a;split at h
   ·cases h
   ·rename_i e;split at h
    ·rename_i hz;cases h;rw[a];simp only;rw[Cd e,BZ hz,BZ c.1.1,c.1.2];rfl
    ·cases h
  ·cases h
 ·split at h
  ·rename_i a b;split at h
   ·rename_i d;split at h
    ·rename_i hz;cases h;have f:=o5 _ d c.2;rw[a];simp only[i6,bg,b,BU,f];rw[BZ hz,BZ c.1]
    ·cases h
   ·cases h
  ·cases h
 ·cases h
theorem xF {tab:Tab}{D:US}{t:Nat}{x s:Sl Unit Unit}{lo hi:Option Int}{p r:List Dc}{φ:List Prop}(h:t8 tab D t x lo hi p=some (s,r,φ))(b:bq φ):fL mkU D tab t x lo hi=some s:=by
 unfold t8 at h;unfold fL;split at h
 ·split at h
  ·rename_i hs;cases h;simp only;rw[BZ hs,BZ b.1]
  ·cases h
 ·split at h
  ·cases h
  ·rename_i c;split at h
   ·rename_i a;split at h
    ·rename_i hz;cases h;rw[a];simp only;rw[Cd c,BZ hz,BZ b.1,b.2.1]
    ·cases h
   ·cases h
 ·split at h
  ·rename_i a;split at h
   ·rename_i hz;cases h;rw[a];simp only;rw[BZ hz,BZ b.1]
   ·cases h
  ·cases h
 ·cases h
theorem yA {D:US}{ti:TI}{x s:Sl Unit Unit}{p r:List Dc}{φ:List Prop}(h:wt D ti x p=some (s,r,φ))(a:bq φ):d9 D ti x=some s:=by
 unfold wt at h;split at h
 ·rename_i k c st i o j y;split at h
  case h_2=>cases h
  rename_i u l;split at h
  case isFalse=>cases h
  rename_i m;split at h
  case h_2=>cases h
  rename_i rows row z n e;split at h
  case isFalse=>cases h
  rename_i q;have b:rows[i]?=some row→bq n→rowRange D k c st i o ti.size=some ((row.drop o).take ti.size):=by intro b t;have v:=o5 st e t;simp only[rowRange,l,m,CI,v,b,BU,BZ q]
  split at h
  ·rename_i d;cases h;simp only[d9,b a.1 a.2,BU,BZ d]
  ·rename_i d;split at h
   ·rename_i f g;cases h;simp only[d9,b a.1 a.2,BU,Cd d,g]
   ·rename_i u' w g;cases h;simp only[d9,b a.1 a.2,BU,Cd d,g]
   ·cases h
 ·exact aG h
def l7 (D:US)(x:Operand):Option Value :=
 match opd () D x with
 |some (.one (.v z))=>some z
 |_=>none
theorem k6 {D:US}{x:Operand}{z:Value}(h:l7 D x=some z):opd mkU.nil D x=some (.one (.v z)):=by
 unfold l7 at h;split at h
 ·rename_i b a;cases h;exact a
 ·cases h
def nz (D:US)(x:Operand):Option (IntKind×Int):=
 match opd () D x with
 |some (.one (.v (.int k n)))=>some (k,n)
 |_=>none
theorem nA {D:US}{x:Operand}{k:IntKind}{n:Int}(h:nz D x=some (k,n)):opd mkU.nil D x=some (.one (.v (.int k n))):=by
 unfold nz at h;split at h
 ·rename_i k' n' a;cases h;exact a
 ·cases h
def ud (D:US)(x:Operand):Option Ej :=
 match opd () D x with
 |some (.one (.v (.string s)))=>some s
 |_=>none
theorem xI {D:US}{x:Operand}{s:Ej}(h:ud D x=some s):opd mkU.nil D x=some (.one (.v (.string s))):=by
 unfold ud at h;split at h
 ·rename_i s' a;cases h;exact a
 ·cases h
def jJ (tab:Tab)(D:US)(op:Op)(p:List Dc):PM (Sl Unit Unit):=
 match op with
 | .binOp o t x y ty =>
  match p with
  | .val z::r=>(l7 D x).bind fun a=>(l7 D y).map fun b=>(.one (.v z),r,[eD tab o t a b=some z])
  | .b d::r =>
   match(l7 D x).bind fun a=>(l7 D y).bind fun b=>eD tab o t a b with
   |some (.bool c)=>some (.one (.v (.bool d)),r,[c=d])
   |_=>match aR mkU tab D (.binOp o t x y ty)with
    |some (.one (.v (.bool c)))=>some (.one (.v (.bool d)),r,[c=d])
    |s=>bh p s
  | .no::r=>bh r (aR mkU tab D (.binOp o t x y ty))
  |_=>bh p (aR mkU tab D (.binOp o t x y ty))
 | .call c =>
  match p with
  | .val (.int k m)::r =>
   match aR mkU tab D (.call c)with
   |some (.one (.v (.int k' n)))=>if k=k' then some (.one (.v (.int k m)),r,[n=m])else none
   |_=>none
  |_=>bh p (aR mkU tab D (.call c))
 | .indexAddr t x i=>(opd () D x).bind fun s=>(nz D i).bind fun n=>tx tab D t s n.2 p
 | .index t x i =>
  match opd () D x,p with
  |some (.clo (.arr offs) hs),.val (.int .i64 m)::r=>(nz D i).bind fun n =>
   if 0≤m∧tab.ars.lookup t=some hs.length∧offs.length=hs.length then
    match hs[m.toNat]?,offs[m.toNat]? with
    |some h,some o=>some (.pb h o,r,[n.2=m])
    |_,_=>none
   else none
  |_,_ =>
  (ud D x).bind fun s=>(nz D i).bind fun n =>if((tab.ti t).map (·.sh))=some .str then some (.one (.v (.int .u8 (se s n.2))),p,[0≤n.2∧n.2<(s.size:Int)])else none
 | .slice t x lo hi none=>(opd () D x).bind fun s=>(dK () D lo).bind fun l=>(dK () D hi).bind fun h=>t8 tab D t s l h p
 | .load t x=>(opd () D x).bind fun s=>(tab.ti t).bind fun ti=>if ti.sh = .other then none else wt D ti s p
 |op=>bh p (aR mkU tab D op)
theorem iC {tab:Tab}{D:US}{op:Op}{p r:List Dc}{s:Sl Unit Unit}{φ:List Prop}(h:jJ tab D op p=some (s,r,φ))(g:bq φ):aR mkU tab D op=some s:=by
 unfold jJ at h;split at h
 ·rename_i o t x y ty;split at h
  ·rename_i z u;simp only[BT,BS]at h;obtain⟨a,v,b,hb,h⟩:=h;cases h;simp only[aR,k6 v,k6 hb,g.1];rfl
  ·rename_i d u;split at h
   ·rename_i c hc;simp only[BT]at hc;obtain⟨a,v,b,hb,hc⟩:=hc;cases h;cases g.1;simp only[aR,k6 v,k6 hb,hc];rfl
   ·split at h
    ·rename_i c hc;cases h;cases g.1;exact hc
    ·exact aG h
  ·exact aG h
  ·exact aG h
 ·rename_i c;split at h
  ·rename_i k m u;split at h
   ·rename_i k' n F;split at h
    ·rename_i G;cases h;cases G;cases g.1;exact F
    ·cases h
   ·cases h
  ·exact aG h
 ·rename_i t x i;simp only[BT]at h;obtain⟨s',q,⟨k,n⟩,j,e⟩:=h;have f:opd mkU.nil D x=some s':=q;simp only[aR,f,nA j];exact xt e g
 ·rename_i t x i;split at h
  ·rename_i offs hs m u H;rw[BT]at h;obtain⟨⟨k,n⟩,j,e⟩:=h;split at e
   case isFalse=>cases e
   rename_i hc;split at e
   case h_2=>cases e
   rename_i L o hh I;cases e;have J:n=m:=g.1;subst J;have w:opd mkU.nil D x=some (.clo (.arr offs) hs):=H;simp only[aR,w,nA j];rw[BZ hc];simp only[hh,I]
  simp only[BT]at h;obtain⟨s',q,⟨k,n⟩,j,e⟩:=h;split at e
  ·rename_i hs;cases e;simp only[aR,xI q,nA j];rw[BZ hs,BZ g.1]
  ·cases e
 ·rename_i t x lo hi;simp only[BT]at h;obtain⟨s',q,l,j,hh,e,K⟩:=h;have f:opd mkU.nil D x=some s':=q;have A:dK mkU.nil D lo=some l:=j;have B:dK mkU.nil D hi=some hh:=e;simp only[aR,f,A,B];exact xF K g
 ·rename_i t x;simp only[BT]at h;obtain⟨s',q,ti,j,e⟩:=h;have f:opd mkU.nil D x=some s':=q;split at e
  ·cases e
  ·rename_i C;simp only[aR,f,j];rw[Cd C];exact yA e g
 ·exact aG h
def mE (D:US)(q:Sl Unit Unit)(us:List (T Unit))(p:List Dc):PM US :=
 match q,p with
 | .pe h c [] i off,.row row :: .rows R::r =>
  if us.all T.fine then
   match ah D h c with
   |some t =>
    if t.isOwn then
     match t with
     | .s _ _ _ rows =>
      if off+us.length≤row.length then
       (bD (fun n=>match n with| .s k d z _=>some (.s k d z R)|_=>none)
        (St.dead (br h c) (qSt (((row.drop off).take us.length).all T.flat) h c) D) h c []).map fun D'=>(D',r,[rows[i]?=some row,rows.set i (am row off us)=R])
      else none
     |_=>none
    else none
   |none=>none
  else none
 | .pe h c [(e,f)] i off,.row a :: .row row :: .rows g :: .rows R::r =>
  if us.all T.fine then
   match ah D h c with
   |some t =>
    if t.isOwn then
     match t with
     | .s _ _ _ b =>
      match a[f]? with
      |some (.s k' j l rows)=>
       if off+us.length≤row.length then
        (bD (fun n=>match n with| .s k d z _=>some (.s k d z R)|_=>none)
         (St.dead (br h c) (qSt (((row.drop off).take us.length).all T.flat) h c) D) h c []).map fun D' =>(D',r,[b[e]?=some a,rows[i]?=some row,rows.set i (am row off us)=g,b.set e (a.set f (.s k' j l g))=R])
       else none
      |_=>none
     |_=>none
    else none
   |none=>none
  else none
 | .pe h c st i off,.row row::r =>
  if us.all T.fine then
   match ah D h c with
   |some t =>
    if t.isOwn then
     match getN t st with
     |some (.s _ _ _ rows)=>
      if off+us.length≤row.length then
       (bD (fun n=>match n with| .s k d z rows=>if off+us.length≤row.length then some (.s k d z (rows.set i (am row off us)))else none|_=>none)
        (St.dead (br h c) (qSt (((row.drop off).take us.length).all T.flat) h c) D) h c st).map fun D'=>(D',r,[rows[i]?=some row])
      else none
     |_=>none
    else none
   |none=>none
  else none
 |_,_=>bh p (du D q us)
section
variable  {δ β : Type}
theorem iA {p:Nat→Nat→Bool}{t:T δ}(h:t.isOwn=true):t.dead p=t:=by
 cases t with
 |v x=>rfl
 |any=>rfl
 |s k d z r=>cases k<;>simp_all[T.isOwn,T.dead]
theorem pW (p:Nat→Nat→Bool)(q:Nat→Nat→Bool→Bool)(s:Sl δ β):ap (s.dead p q)=(ap s).map (List.map (T.dead p)):=by
 cases s with
 |al h c st lo len=>simp only[Sl.dead];split<;>rfl
 |pe h c st i off=>simp only[Sl.dead];split<;>rfl
 |im k b ts off =>
  simp only[Sl.dead];split
  ·split<;>rfl
  ·rfl
 |_=>rfl
theorem eE (p:Nat→Nat→Bool)(q:Nat→Nat→Bool→Bool)(D:St δ β)(h c:Nat):ah (St.dead p q D) h c=(ah D h c).map (T.dead p):=by
 unfold ah St.dead;rw[B6];cases D[h]? with
 |none=>rfl
 |some s =>
  simp only[BQ,BU,pW];cases ap s with
  |none=>rfl
  |some cs=>simp[B6]
theorem qq {f g:T δ→Option (T δ)}{n:T δ}(e:f n=g n):∀(st:List (Nat×Nat)){t:T δ},getN t st=some n→cM f t st=cM g t st
 |[],t,h=>by cases h;simp only[cM];exact e
 |(i,c)::st,t,h=>by
  cases t with
  |v x=>simp[getN]at h
  |any=>simp[getN]at h
  |s k d z rows =>simp only[getN,BT]at h;obtain⟨u,⟨row,hi,a⟩,b⟩:=h;simp only[cM,hi,a,BU];rw[qq e st b]
end
theorem oP {D D':US}{q:Sl Unit Unit}{us:List (T Unit)}{p r:List Dc}{φ:List Prop}(h:mE D q us p=some (D',r,φ))(m:bq φ):du D q us=some D':=by
 unfold mE at h;split at h
 ·rename_i u c i off row R v;split at h
  case isFalse=>cases h
  rename_i a;split at h
  case h_2=>cases h
  rename_i t e;split at h
  case isFalse=>cases h
  rename_i g;split at h
  case h_2=>cases h
  rename_i k d z rows;split at h
  case isFalse=>cases h
  rename_i j;rw[BS]at h;obtain⟨D1,n,o⟩:=h;cases o;simp only[du,a,CI,e,g,getN,m.1,BZ j];rw[←n];unfold bD;rw[eE,e];simp only[BQ,BU,iA g,cM,setRow,m.1];rw[BZ j,BU, ←m.2.1]
 ·rename_i u c w x i off y row K R v;split at h
  case isFalse=>cases h
  rename_i a;split at h
  case h_2=>cases h
  rename_i t e;split at h
  case isFalse=>cases h
  rename_i g;split at h
  case h_2=>cases h
  rename_i k d z b;split at h
  case h_2=>cases h
  rename_i k' F G rows l;split at h
  case isFalse=>cases h
  rename_i j;rw[BS]at h;obtain⟨D1,n,o⟩:=h;cases o;obtain⟨A,B,H,I,_⟩:=m;have s:getN (.s k d z b) [(w,x)]=some (.s k' F G rows):=by show((b[w]?).bind (·[x]?)).bind (getN · [])=_;rw[A,BU,l,BU];rfl
  simp only[du,a,CI,e,g,s,B,BZ j];rw[←n];unfold bD;rw[eE,e];simp only[BQ,BU,iA g,cM,setRow,A,l,B];rw[BZ j];simp only[BQ,BU,H,I]
 ·rename_i u c st i off row v J C;split at h
  case isFalse=>cases h
  rename_i a;split at h
  case h_2=>cases h
  rename_i t e;split at h
  case isFalse=>cases h
  rename_i g;split at h
  case h_2=>cases h
  rename_i k d z rows s;split at h
  case isFalse=>cases h
  rename_i j;rw[BS]at h;obtain⟨D1,n,o⟩:=h;cases o;simp only[du,a,CI,e,g,s,m.1,BZ j];rw[←n];unfold bD;rw[eE,e];simp only[BQ,BU,iA g];rw[qq (f:=setRow i off us) ?_ st s];simp only[setRow,m.1,BU];rw[BZ j]
 ·exact aG h
def sl (tab:Tab)(D:US)(dst:Option Nat)(t:Nat)(l c:Operand)(p:List Dc):PM US :=
 match p with
 | .rows R::r =>
  match tab.ti t,dst,(opd mkU.nil D l).bind intOfSl,(opd mkU.nil D c).bind intOfSl with
  |some ⟨_,_,_,.slice e⟩,some d,some n,some k =>
   match tab.ti e with
   |some a =>
    if d<D.length∧a.size≠0∧a.zero.length=a.size then
     some (av D (some d) (.one (.s .own () a.size R)),r,[0≤n∧n≤k∧(a.bytes:Int)*k≤281474976710656∧k≤4611686018427387904,List.replicate n.toNat (a.zero.map (T.inj ()))=R])
    else none
   |none=>none
  |_,_,_,_=>none
 |_=>none
theorem tE {tab:Tab}{D D':US}{dst:Option Nat}{t:Nat}{l c:Operand}{p r:List Dc}{φ:List Prop}(h:sl tab D dst t l c p=some (D',r,φ))(e:bq φ):cd mkU frU tab D dst t l c=some D':=by
 unfold sl at h;split at h
 case h_2=>cases h
 split at h
 case h_2=>cases h
 rename_i b f hc;split at h
 case h_2=>cases h
 rename_i j d;split at h
 case isFalse=>cases h
 rename_i a;cases h;obtain⟨g,i,_⟩:=e;unfold cd;try rw[b]
 try rw[f]
 try rw[hc]
 try simp only
 try rw[d]
 try simp only
 rw[BZ a,BZ g, ←i]
def qu (tab:Tab)(D:US)(dst:Option Nat)(t g:Nat)(s x:Operand)(p:List Dc):PM US :=
 match p with
 | .rows R::r =>
  match tab.ti t,tab.ti g,dst,cellsTake mkU D s with
  |some ⟨_,_,_,.slice e⟩,some ⟨_,_,_,.slice _⟩,some c,some (false,[.s .own _ z rows],D1)=>
   match tab.ti e with
   |some b =>
    match b.zero.all T.flat with
    |true =>
     match cellsCopy mkU D1 x with
     |some (false,[.s _ _ d a])=>
      if c<D1.length∧b.size=z∧b.size≠0∧b.zero.length=b.size∧d=z then
       some (av D1 (some c) (.one (.s .own () z R)),r,
        [a.all (fun r=>r.all T.flat)=true∧(rows.length+a.length)*b.bytes≤140737488355328∧rows.length+a.length≤4611686018427387904,rows++a=R])
      else none
     |_=>none
    |false =>
     match cellsTake mkU D1 x with
     |some (false,[.s .own _ d a],f)=>
      if c<f.length∧b.size=z∧b.size≠0∧b.zero.length=b.size∧d=z then
       some (av f (some c) (.one (.s .own () z R)),r,
        [(rows.length+a.length)*b.bytes≤140737488355328∧rows.length+a.length≤4611686018427387904,rows++a=R])
      else none
     |_=>none
   |none=>none
  |_,_,_,_=>none
 |_=>none
theorem vH {tab:Tab}{D D':US}{dst:Option Nat}{t i:Nat}{s x:Operand}{p r:List Dc}{φ:List Prop}(h:qu tab D dst t i s x p=some (D',r,φ))(j:bq φ):gd mkU frU tab D dst t i s x=some D':=by
 unfold qu at h;split at h
 case h_2=>cases h
 split at h
 case h_2=>cases h
 rename_i d b hs;split at h
 case h_2=>cases h
 rename_i k e;unfold gd;try rw[d]
 try rw[b]
 try rw[hs]
 try simp only
 try rw[e]
 try simp only
 split at h
 ·rename_i a;split at h
  case h_2=>cases h
  rename_i f;split at h
  case isFalse=>cases h
  rename_i hc;cases h;obtain⟨c,g,_⟩:=j;rw[a];simp only[mf,f];rw[BZ c.1];simp only;rw[BZ hc,BZ c.2, ←g];try rfl
 ·rename_i a;split at h
  case h_2=>cases h
  rename_i f;split at h
  case isFalse=>cases h
  rename_i hc;cases h;obtain⟨c,g,_⟩:=j;rw[a];simp only[mf,f];rw[BZ hc,BZ c, ←g];try rfl
def yE (D:US)(dst:Option Nat)(rows:List (List (T Unit)))(p:List Dc):PM US :=
 match p with
 | .val (.string st)::r=>(bY D dst (.one (.v (.string st)))).map fun D'=>(D',r,[(ce rows).map strOfNums=some st])
 |_=>none
theorem zj {D D':US}{dst:Option Nat}{rows:List (List (T Unit))}{p r:List Dc}{φ:List Prop}(h:yE D dst rows p=some (D',r,φ))(a:bq φ):
  ((ce rows).bind fun xs=>bY D dst (.one (.v (.string (strOfNums xs)))))=some D':=by
 unfold yE at h;split at h
 ·rename_i st e;rw[BS]at h;obtain⟨D1,b,c⟩:=h;cases c;have:=a.1;rw[BS]at this;obtain⟨xs,d,rfl⟩:=this;rw[d,BU,b]
 ·cases h
def nP (tab:Tab)(D:US)(dst:Option Nat)(a t:Nat)(x:Operand)(p:List Dc):PM US :=
 match p with
 | .rows R::r =>
  match tab.ti a,tab.ti t,dst,opd mkU.nil D x with
  |some ⟨_,_,_,.str⟩,some ⟨_,_,_,.slice e⟩,some d,some (.one (.v (.string s)))=>
   match tab.ti e with
   |some ⟨1,_,_,.int .u8⟩=>if d<D.length then some (av D (some d) (.one (.s .own () 1 R)),r,[da s=R])else none
   |_=>none
  |_,_,_,_=>none
 |_=>none
theorem uc {tab:Tab}{D D':US}{dst:Option Nat}{a t:Nat}{x:Operand}{p r:List Dc}{φ:List Prop}(h:nP tab D dst a t x p=some (D',r,φ))(b:bq φ):dh mkU frU tab D dst a t x=some D':=by
 unfold nP at h;split at h
 case h_2=>cases h
 split at h
 case h_2=>cases h
 rename_i hs c d;split at h
 case h_2=>cases h
 rename_i e;split at h
 case isFalse=>cases h
 rename_i hd;cases h;have f:=b.1;unfold dh;try rw[hs]
 try rw[c]
 try rw[d]
 try simp only
 try rw[e]
 try simp only
 rw[BZ hd, ←f];try rfl
def np (D:US)(x:Operand)(p:List Dc):PM (Sl Unit Unit×US):=
 match x with
 | .tmp t =>
  match D[t]? with
  |some (.al h c [] lo len)=>
   match ah D h c with
   |some (.s .own d z rows)=>if lo=0 then(bD (fun _=>some .any) (St.dead (br h c) (qHC h c) D) h c []).map fun D'=>((.one (.s .own d z rows),D'),p,[len=rows.length])else none
   |_=>none
  |some (.al h c [(i,j)] lo len)=>
   match ah D h c,p with
   |some (.s .own d z rows),.row row::r =>
    match row[j]? with
    |some (.s .own b e a)=>if lo=0 then(cT (St.dead (br h c) (qHC h c) D) h c (.s .own d z (rows.set i (row.set j .any)))).map fun D'=>((.one (.s .own b e a),D'),r,[rows[i]?=some row,len=a.length])else none
    |_=>none
   |_,_=>none
  |_=>bh p (homeTake D x)
 |_=>none
theorem th {D:US}{x:Operand}{p r:List Dc}{s:Sl Unit Unit×US}{φ:List Prop}(h:np D x p=some (s,r,φ))(m:bq φ):homeTake D x=some s:=by
 unfold np at h;split at h
 ·rename_i t;split at h
  ·rename_i e c lo len f;split at h
   ·rename_i d z rows hc;split at h
    ·rename_i a;rw[BS]at h;obtain⟨D',g,k⟩:=h;cases k;have l:bg D e c []=some (.s .own d z rows):=by simp only[bg,hc,BU,getN]
     simp only[homeTake,f,l];rw[BZ ⟨a,m.1⟩,g];rfl
    ·cases h
   ·cases h
  ·rename_i e c i j lo len f;split at h
   ·rename_i d z rows row w hc;split at h
    ·rename_i q u b n;split at h
     ·rename_i a;rw[BS]at h;obtain⟨D',g,k⟩:=h;cases k;obtain⟨o,v,_⟩:=m;have l:bg D e c [(i,j)]=some (.s .own q u b):=by simp only[bg,hc,BU,getN,o,n]
      simp only[homeTake,f,l];rw[BZ ⟨a,v⟩];unfold bD;rw[eE,hc];simp only[BQ,BU,iA (t:=T.s .own d z rows) rfl,cM,o,n,g]
     ·cases h
    ·cases h
   ·cases h
  ·exact aG h
 ·cases h
def nn (D D1:US)(x:Operand)(o:Bool×List (T Unit))(p:List Dc):PM US :=
 match x with
 | .tmp t =>
  match D[t]? with
  |some (.al h c [] _ _)=>
   match ah D h c,o.2 with
   |some (.s .own d z _),[.s .own _ b a]=>if b=z then bh p (cT (St.dead (br h c) (gK h c) D) h c (.s .own d z a))else none
   |_,_=>none
  |some (.al h c [(i,j)] _ _)=>
   match ah D h c,p,o.2 with
   |some (.s .own d z rows),.row row :: .rows R::r,[.s .own _ b a]=>
    match row[j]? with
    |some (.s .own f e _)=>if b=e then(cT (St.dead (br h c) (gK h c) D) h c (.s .own d z R)).map fun D'=>(D',r,[rows[i]?=some row,rows.set i (row.set j (.s .own f e a))=R])else none
    |_=>none
   |_,_,_=>none
  |_=>bh p (homePut0 D D1 x o)
 |_=>none
theorem tg {D D1 D':US}{x:Operand}{o:Bool×List (T Unit)}{p r:List Dc}{φ:List Prop}(h:nn D D1 x o p=some (D',r,φ))(n:bq φ):homePut0 D D1 x o=some D':=by
 unfold nn at h;split at h
 ·rename_i t;split at h
  ·rename_i e c lo len f;split at h
   ·rename_i d z rows q u a hc g;split at h
    ·rename_i hz;have h:=aG h;have k:bg D e c []=some (.s .own d z rows):=by simp only[bg,hc,BU,getN]
     simp only[homePut0,f,k,g];rw[BZ hz];unfold bD;rw[eE,hc];simp only[BQ,BU,iA (t:=T.s .own d z rows) rfl,cM,fK,h]
    ·cases h
   ·cases h
  ·rename_i e c i j lo len f;split at h
   ·rename_i d z rows row R C q u a hc g;split at h
    ·rename_i v w b l;split at h
     ·rename_i hz;rw[BS]at h;obtain⟨F,y,A⟩:=h;cases A;obtain⟨m,B,_⟩:=n;have k:bg D e c [(i,j)]=some (.s .own v w b):=by simp only[bg,hc,BU,getN,m,l]
      simp only[homePut0,f,k,g];rw[BZ hz];unfold bD;rw[eE,hc];simp only[BQ,BU,iA (t:=T.s .own d z rows) rfl,cM,m,l,fK,B,y]
     ·cases h
    ·cases h
   ·cases h
  ·exact aG h
 ·cases h
def o7 (D D1:US)(x:Operand)(o:Bool×List (T Unit))(p:List Dc):PM US:=if pU o=true then some (D1,p,[])else nn D D1 x o p
theorem uF {D D1 D':US}{x:Operand}{o:Bool×List (T Unit)}{p r:List Dc}{φ:List Prop}(h:o7 D D1 x o p=some (D',r,φ))(b:bq φ):homePut D D1 x o=some D':=by
 unfold o7 at h;unfold homePut;split at h
 ·rename_i a;cases h;rw[BZ a]
 ·rename_i a;rw[Cd a];exact tg h b
def sr (tab:Tab)(fns:FuncId→Option Func)(C:Sem1)(D:US)(o:Oper)(tk:Bool)(p:List Dc):PM US :=
 match callTo D o with
 |some (f,xs,caps)=>
  if(fns f).isSome then
   match tab.addr.lookup f with
   |some offs=>bh p (addrSl D o.dst offs xs caps)
   |none =>
   match tab.io.lookup f with
   |none=>(argsW mkU tab f D xs).bind fun as =>
    match p with
    | .ret rs::r=>if kJ (caps.isEmpty&&xs.all (opdFar mkU D)) rs=true then(putRet mkU D o.dst rs).map fun D'=>(D',r,[C f (as++ims caps)=some rs])else none
    |_=>none
   |some i =>
    match caps,xs[i]? with
    |[],some x =>
     match np D x p with
     |some (t,d,e)=>(argsIo mkU (tab.ou.contains f) t.2 t.1 i xs).bind fun as =>
      match d with
      | .ret (q::rs)::g =>
       if kJ (tab.ou.contains f ||(xs.eraseIdx i).all (opdFar mkU t.2)) (q::rs)=true then
        match o7 D t.2 x q g with
        |some (h,j,k)=>(putRet mkU (repP D x h) o.dst rs).map fun D'=>(D',j,e++([C f as=some (q::rs)]++k))
        |none=>none
       else none
      |_=>none
     |none=>none
    |_,_=>none
  else none
 |none =>
  match o.op with
  | .store t b x =>
   match jT tab t x with
   |some z =>
    match o.dst,tab.ti t with
    |none,some ti=>if ti.size=1 then(opd () D b).bind fun q=>mE D q [.s .own () z []] p else none
    |_,_=>none
   |none =>
    match o.dst,tab.ti t,cellsOf mkU D x tk with
    |none,some ti,some (_,us,D1)=>if us.length=ti.size∧0<us.length then(opd () D1 b).bind fun q=>mE D1 q us p else none
    |_,_,_=>none
  | .alloc _=>bh p (bn mkU frU tab D o tk)
  | .box _ _=>bh p (bn mkU frU tab D o tk)
  | .move _=>bh p (bn mkU frU tab D o tk)
  | .assign _=>bh p (bn mkU frU tab D o tk)
  | .extract _ _=>bh p (bn mkU frU tab D o tk)
  | .makeFunc _ _ _=>bh p (bn mkU frU tab D o tk)
  | .buildSlice _ _ _=>bh p (bn mkU frU tab D o tk)
  | .makeSlice t l c=>sl tab D o.dst t l c p
  | .call c =>
   match lC c with
   |some (t,m,s,x)=>qu tab D o.dst t m s x p
   |none=>(jJ tab D (.call c) p).bind fun s=>(bY D o.dst s.1).map fun D'=>(D',s.2.1,s.2.2)
  | .convert a dst x =>
   match ge mkU tab D a dst x with
   |some rows=>yE D o.dst rows p
   |none =>
    match dh mkU frU tab D o.dst a dst x with
    |some _=>nP tab D o.dst a dst x p
    |none=>(jJ tab D (.convert a dst x) p).bind fun s=>(bY D o.dst s.1).map fun D'=>(D',s.2.1,s.2.2)
  | .load t x=>if tk then bh p (bn mkU frU tab D o tk)else(jJ tab D (.load t x) p).bind fun s=>(bY D o.dst s.1).map fun D'=>(D',s.2.1,s.2.2)
  | .build _ _=>bh p (bn mkU frU tab D o tk)
  |op=>(jJ tab D op p).bind fun s=>(bY D o.dst s.1).map fun D'=>(D',s.2.1,s.2.2)
theorem vY {tab:Tab}{D D':US}{o:Oper}{tk:Bool}{op:Op}(d:o.op=op)(m:∀t p x,op ≠ .store t p x)(n:∀t,op ≠ .alloc t)(q:∀t x,op ≠ .box t x)(r:∀x,op ≠ .move x)(u:∀x,op ≠ .assign x)(v:∀t x,op ≠ .build t x)(w:∀x i,op ≠ .extract x i)(z:∀t l x,op ≠ .buildSlice t l x)(A:∀t l x,op ≠ .makeSlice t l x)(e:∀t x,op ≠ .load t x)(g:∀f x y,op ≠ .makeFunc f x y)(j:∀c,op ≠ .call c)(k:∀a b x,op ≠ .convert a b x)
  (h:((aR mkU tab D op).bind fun s=>bY D o.dst s)=some D'):bn mkU frU tab D o tk=some D':=by
 unfold bn;split
 ·rename_i hh;rw[d]at hh;exact absurd hh (m _ _ _)
 ·rename_i hh;rw[d]at hh;exact absurd hh (n _)
 ·rename_i hh;rw[d]at hh;exact absurd hh (q _ _)
 ·rename_i hh;rw[d]at hh;exact absurd hh (r _)
 ·rename_i hh;rw[d]at hh;exact absurd hh (u _)
 ·rename_i hh;rw[d]at hh;exact absurd hh (e _ _)
 ·rename_i hh;rw[d]at hh;exact absurd hh (w _ _)
 ·rename_i hh;rw[d]at hh;exact absurd hh (g _ _ _)
 ·rename_i hh;rw[d]at hh;exact absurd hh (z _ _ _)
 ·rename_i hh;rw[d]at hh;exact absurd hh (A _ _ _)
 ·rename_i hh;rw[d]at hh;exact absurd hh (j _)
 ·rename_i hh;rw[d]at hh;exact absurd hh (k _ _ _)
 ·rename_i hh;rw[d]at hh;exact absurd hh (v _ _)
 ·rw[d];exact h
theorem ub {tab:Tab}{fns:FuncId→Option Func}{C:Sem1}{D D':US}{o:Oper}{tk:Bool}{p r:List Dc}{φ:List Prop}(h:sr tab fns C D o tk p=some (D',r,φ))(j:bq φ):stepU tab fns C D o tk=some D':=by
 unfold sr at h;unfold stepU;split at h
 ·rename_i f xs caps hc;split at h
  ·rename_i u;split at h
   ·rename_i offs m;try rw[hc]
    try simp only
    rw[BZ u,m];exact aG h
   rename_i m;split at h
   ·rename_i v;rw[BT]at h;obtain⟨as,b,h⟩:=h;split at h
    ·rename_i rs B;split at h
     case isFalse=>cases h
     rename_i F;rw[BS]at h;obtain⟨D1,d,k⟩:=h;cases k;try rw[hc]
     try simp only
     rw[BZ u,m];simp only;rw[v];simp only;rw[b,BU,j.1,BU,BZ F,d]
    ·cases h
   ·rename_i i v;split at h
    case h_2=>cases h
    rename_i x0 G;split at h
    case h_2=>cases h
    rename_i t p1 φ1 P;rw[BT]at h;obtain⟨as,b,h⟩:=h;split at h
    case h_2=>cases h
    rename_i q rs p2;split at h
    case isFalse=>cases h
    rename_i F;split at h
    case h_2=>cases h
    rename_i Q p3 φ2 R;rw[BS]at h;obtain⟨D3,d,k⟩:=h;cases k;obtain⟨S,U⟩:=bM j;obtain⟨a3,a4⟩:=bM U;try rw[hc]
    try simp only
    rw[BZ u,m];simp only;rw[v];simp only;rw[G];simp only;rw[th P S,BU,b,BU,a3.1,BU,BZ F];simp only;rw[uF R a4,BU,d]
  ·cases h
 ·rename_i hc;try rw[hc]
  try simp only
  split at h
  ·rename_i t N x a;unfold bn;rw[a];simp only;split at h
   ·rename_i z hz;split at h
    case h_2=>cases h
    rename_i ti hd w;split at h
    case isFalse=>cases h
    rename_i y;rw[BT]at h;obtain⟨q,b,d⟩:=h;have:=oP d j;rw[hd];simp only[hz,iw,w];rw[BZ y];have A:opd mkU.nil D N=some q:=b;rw[A,BU];exact this
   ·rename_i hz;split at h
    case h_2=>cases h
    rename_i ti g us D1 hd w H;split at h
    case isFalse=>cases h
    rename_i y;rw[BT]at h;obtain⟨q,b,d⟩:=h;have:=oP d j;rw[hd];simp only[hz,iJ,w,H];rw[BZ y];have A:opd mkU.nil D1 N=some q:=b;rw[A,BU,this]
  ·exact aG h
  ·exact aG h
  ·exact aG h
  ·exact aG h
  ·exact aG h
  ·exact aG h
  ·exact aG h
  ·rename_i t l c a;have:=tE h j;unfold bn;rw[a];exact this
  ·rename_i c a;unfold bn;rw[a];simp only;split at h
   ·rename_i t t2 s x e;try rw[e]
    try simp only
    exact vH h j
   ·rename_i e;simp only[BT,BS]at h;obtain⟨⟨s,B,I⟩,b,D1,d,k⟩:=h;cases k;have:=iC b j;try rw[e]
    try simp only
    rw[this,BU,d]
  ·rename_i V dst x a;unfold bn;rw[a];simp only;split at h
   ·rename_i rows e;try rw[e]
    try simp only
    exact zj h j
   ·rename_i e;try rw[e]
    try simp only
    split at h
    ·rename_i Q n;have O:=uc h j;try rw[n]at O
     try rw[n]
     try simp only
     exact O
    ·rename_i n;simp only[BT,BS]at h;obtain⟨⟨s,B,I⟩,b,D1,d,k⟩:=h;cases k;have:=iC b j;try rw[n]
     try simp only
     rw[this,BU,d]
  ·rename_i t x a;split at h
   ·exact aG h
   ·rename_i J;simp only[BT,BS]at h;obtain⟨⟨s,B,I⟩,b,D1,d,k⟩:=h;cases k;have:=iC b j;unfold bn;rw[a];simp only;rw[Cd J,this,BU,d]
  ·exact aG h
  ·rename_i W X Y Z n5 n7 K n8 n9 L M n10 n6;simp only[BT,BS]at h;obtain⟨⟨s,B,I⟩,b,D1,d,k⟩:=h;cases k;have:=iC b j;refine vY rfl W X Y Z n5 n6 n7 n8 n9 n10 K L M ?_;rw[this,BU,d]
def eC {α β:Type}(x:PM α)(f:α→List Dc→PM β):PM β :=
 match x with
 |some (a,p,φ)=>match f a p with|some (b,r,ψ)=>some (b,r,φ++ψ)|none=>none
 |none=>none
theorem b5 {α β:Type}{x:PM α}{f:α→List Dc→PM β}{b:β}{r:List Dc}{χ:List Prop}(h:eC x f=some (b,r,χ))(c:bq χ):
  ∃a p φ ψ,x=some (a,p,φ)∧bq φ∧f a p=some (b,r,ψ)∧bq ψ:=by
 unfold eC at h;split at h
 ·rename_i a p φ;split at h
  ·rename_i d e ψ hf;cases h;exact⟨a,p,φ,ψ,rfl,(bM c).1,hf,(bM c).2⟩
  ·cases h
 ·cases h
def dU (tab:Tab)(fns:FuncId→Option Func)(C:Sem1)(tk:Nat→Bool)(ops:Array Oper):List Oper→Nat→US→List Dc→PM US
 |[],_,D,p=>some (D,p,[])
 |o::l,i,D,p =>
  match o.guard with
  |none=>eC (sr tab fns C D o (tk i) p) (dU tab fns C tk ops l (i+1))
  |some (j,a)=>
   match((ops[j]?).bind (·.dst)).bind (yieldAt D)with
   |some b =>
    if b=some a then eC (sr tab fns C D o (tk i) p) (dU tab fns C tk ops l (i+1))
    else match o.dst with
     |none=>dU tab fns C tk ops l (i+1) D p
     |some t=>if t<D.length then dU tab fns C tk ops l (i+1) (putA D t (.tup [])) p else none
   |none=>none
theorem bR {tab:Tab}{fns:FuncId→Option Func}{C:Sem1}{tk:Nat→Bool}{ops:Array Oper}:∀(l:List Oper)(i:Nat){D D':US}{p r:List Dc}{φ:List Prop},
  dU tab fns C tk ops l i D p=some (D',r,φ)→bq φ→runOps tab fns C tk ops l i D=some D'
 |[],i,D,D',p,r,φ,h,e=>by cases h;rfl
 |o::l,i,D,D',p,r,φ,h,e=>by
  unfold dU at h;unfold runOps;split at h
  ·rename_i f;obtain⟨D1,n,q,s,g,c,k,d⟩:=b5 h e;try rw[f]
   try simp only
   rw[ub g c,BU];exact bR l (i+1) k d
  ·rename_i j m f;try rw[f]
   try simp only
   split at h
   ·rename_i b hb;try rw[hb]
    try simp only
    split at h
    ·rename_i a;obtain⟨D1,n,q,s,g,c,k,d⟩:=b5 h e;rw[BZ a,ub g c,BU];exact bR l (i+1) k d
    ·rename_i a;split at h
     ·rename_i hd;rw[Cd a,hd];exact bR l (i+1) h e
     ·rename_i t hd;split at h
      ·rename_i u;rw[Cd a,hd];simp only;rw[BZ u,BU];exact bR l (i+1) h e
      ·cases h
   ·cases h
def qo (tab:Tab)(fns:FuncId→Option Func)(C:Sem1)(M:US)(o:Oper)(p:List Dc):PM (Sl Unit Unit):=
 match callTo M o with
 |some (f,xs,caps)=>
  if(fns f).isSome∧tab.io.lookup f=none then(argsW mkU tab f M xs).bind fun as =>
   match p with
   | .ret rs::r=>if kJ false rs=true then(jB mkU rs).map fun s=>(s,r,[C f (as++ims caps)=some rs])else none
   |_=>none
  else none
 |none =>
  match o.op with
  | .buildSlice t len a =>
   match o.dst with
   |some d=>bh p ((b9 mkU frU tab M (some d) t len a.toList).bind fun U=>match U[d]? with|some (.one u)=>if u.isOwn then some (.one u)else none|_=>none)
   |none=>none
  | .makeSlice t l c =>
   match o.dst with
   |some d=>eC (sl tab M (some d) t l c p) fun U r=>match U[d]? with|some (.one u)=>if u.isOwn then some (.one u,r,[])else none|_=>none
   |none=>none
  | .alloc b=>bh p ((tab.ti b).map fun ti=>.box () (ti.zero.map (T.inj ())))
  | .extract x i=>bh p (kA M x i)
  | .move x=>match dV M x with|some rs=>some (.tup rs,p,[])|none=>jJ tab M (.move x) p
  | .build b a=>bh p (gB mkU tab M b a.toList)
  |op=>jJ tab M op p
theorem rx {tab:Tab}{fns:FuncId→Option Func}{C:Sem1}{M:US}{o:Oper}{p r:List Dc}{s:Sl Unit Unit}{φ:List Prop}(h:qo tab fns C M o p=some (s,r,φ))(m:bq φ):stepV tab fns C M o=some s:=by
 unfold qo at h;unfold stepV;split at h
 ·rename_i f xs caps hc;split at h
  ·rename_i n;rw[BT]at h;obtain⟨as,q,h⟩:=h;split at h
   ·rename_i rs G;split at h
    case isFalse=>cases h
    rename_i z;rw[BS]at h;obtain⟨s',b,A⟩:=h;cases A;try rw[hc]
    try simp only
    rw[BZ n,q,BU,m.1,BU,BZ z,b]
   ·cases h
  ·cases h
 ·rename_i hc;try rw[hc]
  try simp only
  split at h
  ·rename_i y len c a;try rw[a]
   try simp only
   split at h
   ·rename_i d hd;try rw[hd]
    try simp only
    exact aG h
   ·cases h
  ·rename_i lt lo hi a;try rw[a]
   try simp only
   split at h
   ·rename_i d hd;try rw[hd]
    try simp only
    obtain⟨H,I,J,K,q,t,b,B⟩:=b5 h m;rw[tE q t,BU];split at b
    ·rename_i u D;split at b
     ·rename_i F;cases b;rw[D];simp only;rw[BZ F]
     ·cases b
    ·cases b
   ·cases h
  ·rename_i y a;try rw[a]
   try simp only
   exact aG h
  ·rename_i x i a;try rw[a]
   try simp only
   exact aG h
  ·rename_i x a;try rw[a]
   try simp only
   split at h
   ·rename_i rs v;rw[v];cases h;rfl
   ·rename_i v;rw[v];exact iC h m
  ·rename_i y c a;try rw[a]
   try simp only
   exact aG h
  ·rename_i w e g j k l;split
   ·rename_i a;exact absurd a (w _ _ _)
   ·rename_i a;exact absurd a (e _ _ _)
   ·rename_i a;exact absurd a (g _)
   ·rename_i a;exact absurd a (j _ _)
   ·rename_i a;exact absurd a (k _)
   ·rename_i a;exact absurd a (l _ _)
   ·exact iC h m
def vX (tab:Tab)(fns:FuncId→Option Func)(C:Sem1)(tk:Nat→Bool)(ops:Array Oper)(m:Nat)(anc:List (List Nat))(U:US)(j:Nat)(p:List Dc):PM (Sl Unit Unit):=
 match ops[j]? with
 |some o =>
  match stO ops anc j with
  |some (h,c)=>bh p ((stepS mkU tab (hid (stH ops anc) (dw tk ops m anc j) U) o h c).map fun y=>.one (.v y))
  |none =>
  match o.dst with
  |some t =>
   eC (match tko tk ops j with
    |none =>
     match o.guard with
     |none=>qo tab fns C (hid (stH ops anc) (dw tk ops m anc j) U) o p
     |some (g,a)=>
      match((ops[g]?).bind (·.dst)).bind (yieldAt (hid (stH ops anc) (dw tk ops m anc j) U))with
      |some b=>if b=some a then qo tab fns C (hid (stH ops anc) (dw tk ops m anc j) U) o p else some (.tup [],p,[])
      |none=>none
    |some _=>bh p (jV mkU frU tab (fun q=>(hid (stH ops anc) (dw tk ops m anc j) U)[q]?) o)) fun s r=>if(t::dz tk ops m).all (fun v => !bH v s)=true then some (s,r,[])else none
  |none=>none
 |none=>none
theorem vp {tab:Tab}{fns:FuncId→Option Func}{C:Sem1}{tk:Nat→Bool}{ops:Array Oper}{m:Nat}{anc:List (List Nat)}{U:US}{s:Sl Unit Unit}{j:Nat}{p r:List Dc}{φ:List Prop}(h:vX tab fns C tk ops m anc U j p=some (s,r,φ))(l:bq φ):
  evM tab fns C tk ops m anc j U=some s:=by
 unfold vX at h;unfold evM;split at h
 case h_2=>cases h
 rename_i o n;rw[n];simp only;split at h
 ·rename_i g c hs;try rw[hs]
  exact aG h
 rename_i hs;try rw[hs]
 try simp only
 split at h
 case h_2=>cases h
 rename_i t hd;rw[hd];simp only;obtain⟨w,x,y,z,d,e,f,q⟩:=b5 h l;split at f
 case isFalse=>cases f
 rename_i hc;cases f;split at d
 ·rename_i a;rw[a];simp only;unfold tf;split at d
  ·rename_i i;rw[i];simp only;rw[rx d e,BU,BZ hc]
  ·rename_i g k i;rw[i];simp only;split at d
   case h_2=>cases d
   rename_i b v;rw[v];simp only;split at d
   ·rename_i hb;rw[BZ hb,rx d e,BU,BZ hc]
   ·rename_i hb;cases d;rw[Cd hb,BU,BZ hc]
 ·rename_i u a;rw[a];simp only;rw[aG d,BU,BZ hc]
def t9 (tab:Tab)(fns:FuncId→Option Func)(C:Sem1)(tk:Nat→Bool)(ops:Array Oper)(m:Nat)(anc:List (List Nat))(U:US)(j:Nat)(p:List Dc):PM US :=
 match stO ops anc j with
 |some (h,c)=>if dO U h c=true then eC (vX tab fns C tk ops m anc U j p) fun s r=>some (dv U h c (iR s),r,[])else none
 |none =>
 match(ops[j]?).bind (·.dst)with
 |some t =>
  match U[t]? with
  |some .any=>eC (vX tab fns C tk ops m anc U j p) fun s r=>some ((jp tk ops j U).set t s,r,[])
  |_=>none
 |none=>none
theorem xH {tab:Tab}{fns:FuncId→Option Func}{C:Sem1}{tk:Nat→Bool}{ops:Array Oper}{m:Nat}{anc:List (List Nat)}{U V:US}{j:Nat}{p r:List Dc}{φ:List Prop}(h:t9 tab fns C tk ops m anc U j p=some (V,r,φ))(f:bq φ):
  stepM tab fns C tk ops m anc U j=some V:=by
 unfold t9 at h;unfold stepM;split at h
 ·rename_i g c hs;try rw[hs]
  try simp only
  split at h
  case isFalse=>cases h
  rename_i hc;obtain⟨i,k,l,n,b,a,d,e⟩:=b5 h f;cases d;rw[BZ hc,vp b a];rfl
 rename_i hs;try rw[hs]
 try simp only
 split at h
 case h_2=>cases h
 rename_i t hd;rw[hd];simp only;split at h
 case h_2=>cases h
 rename_i o;rw[o];simp only;obtain⟨i,k,l,n,b,a,d,e⟩:=b5 h f;cases d;rw[vp b a];rfl
def lY (tab:Tab)(fns:FuncId→Option Func)(C:Sem1)(tk:Nat→Bool)(ops:Array Oper)(m:Nat)(anc:List (List Nat)):Nat→Nat→US→List Dc→PM US| 0,_,U,p=>some (U,p,[])|n+1,j,U,p=>eC (t9 tab fns C tk ops m anc U j p) (lY tab fns C tk ops m anc n (j+1))
theorem kh {tab:Tab}{fns:FuncId→Option Func}{C:Sem1}{tk:Nat→Bool}{ops:Array Oper}{m:Nat}{anc:List (List Nat)}:∀(n j:Nat){U V:US}{p r:List Dc}{φ:List Prop},lY tab fns C tk ops m anc n j U p=some (V,r,φ)→bq φ →
  gZ tab fns C tk ops m anc n j U=some V
 | 0,j,U,V,p,r,φ,h,c=>by cases h;rfl
 |n+1,j,U,V,p,r,φ,h,c=>by obtain⟨f,g,i,k,d,a,e,b⟩:=b5 h c;unfold gZ;rw[xH d a,BU];exact kh n (j+1) e b
def ww (tab:Tab)(fns:FuncId→Option Func)(C:Sem1)(tk:Nat→Bool)(ops:Array Oper)(m:Nat)(anc:List (List Nat))(D:US)(p:List Dc):PM US :=if sf tk ops m anc&&(a9 ops m).all (fun t=>decide (t<D.length))&&(killAll (a9 ops m) D).all (fun s=>(dz tk ops m).all fun u => !bH u s)&&(jv ops anc).all (fun p=>dO (killAll (a9 ops m) D) p.2.1 p.2.2)then eC (lY tab fns C tk ops m anc m 0 (killAll (a9 ops m) D) p) (dU tab fns C tk ops (ops.toList.drop m) m)else none
theorem yC {tab:Tab}{fns:FuncId→Option Func}{C:Sem1}{tk:Nat→Bool}{ops:Array Oper}{m:Nat}{anc:List (List Nat)}{D V:US}{p r:List Dc}{φ:List Prop}(h:ww tab fns C tk ops m anc D p=some (V,r,φ))(c:bq φ):
  runD tab fns C tk ops m anc D=some V:=by
 unfold ww at h;unfold runD;split at h
 ·rename_i d;obtain⟨g,i,j,k,e,a,f,b⟩:=b5 h c;rw[BZ d,kh _ _ e a,BU];exact bR _ _ f b
 ·cases h
def qn (tab:Tab)(fns:FuncId→Option Func)(C:Sem1)(tk:Nat→Bool)(ops:Array Oper)(j:Nat)(D:US)(p:List Dc):PM US :=
 match ops[j]? with
 |some o=>dU tab fns C tk ops [o] j D p
 |none=>none
theorem xG {tab:Tab}{fns:FuncId→Option Func}{C:Sem1}{tk:Nat→Bool}{ops:Array Oper}{j:Nat}{D D':US}{p r:List Dc}{φ:List Prop}(h:qn tab fns C tk ops j D p=some (D',r,φ))(a:bq φ):stepE tab fns C tk ops j D=some D':=by
 unfold qn at h;unfold stepE;split at h
 ·rename_i o b;rw[b,BU];exact bR _ _ h a
 ·cases h
def yM (tab:Tab)(fns:FuncId→Option Func)(C:Sem1)(tk:Nat→Bool)(ops:Array Oper):List Nat→US→List Dc→Option (List (Nat×List Dc)×List Dc)
 |[],_,p=>some ([],p)
 |j::a,D,p =>
  match qn tab fns C tk ops j D p with
  |some (D',r,_)=>(yM tab fns C tk ops a D' r).map fun s=>((j,p.take (p.length-r.length))::s.1,s.2)
  |none=>none
def sj {α:Type}(f:Nat→Option (List α×List Prop)):List Nat→Option (List α×List Prop)
 |[]=>some ([],[])
 |j::c=>match f j,sj f c with|some (a,φ),some (b,ψ)=>some (a++b,φ++ψ)|_,_=>none
theorem s9 {α:Type}{f:Nat→Option (List α×List Prop)}{g:Nat→List α}(hf:∀j a φ,f j=some (a,φ)→bq φ→g j=a):∀{l:List Nat}{b:List α}{ψ:List Prop},sj f l=some (b,ψ)→bq ψ→l.flatMap g=b
 |[],b,ψ,h,_=>by cases h;rfl
 |j::i,b,ψ,h,c=>by
  unfold sj at h;split at h
  ·rename_i a φ k m d e;cases h;rw[B9,hf j a φ d (bM c).1,s9 hf e (bM c).2]
  ·cases h
def nX (tab:Tab)(fns:FuncId→Option Func)(C:Sem1)(tk:Nat→Bool)(ops:Array Oper)(seg:List (Nat×List Dc)):Nat→List Nat→US→Option (List (Option US)×List Prop)
 | 0,rem,D=>match rem with|[]=>some ([some D],[])|_=>none
 |n+1,rem,D =>
  match rem.filter (fun j=>(aC ops j).all fun i => !rem.contains i)with
  |[]=>none
  |j::a=>sj (fun j=>match qn tab fns C tk ops j D ((seg.lookup j).getD [])with
   |some (D',[],φ)=>(nX tab fns C tk ops seg n (rem.erase j) D').map fun r=>(r.1,φ++r.2)
   |_=>none) (j::a)
theorem pn {tab:Tab}{fns:FuncId→Option Func}{C:Sem1}{tk:Nat→Bool}{ops:Array Oper}{seg:List (Nat×List Dc)}:∀(n:Nat){rem:List Nat}{D:US}{l:List (Option US)}{φ:List Prop},nX tab fns C tk ops seg n rem D=some (l,φ)→bq φ→fQ tab fns C tk ops n rem D=l
 | 0,rem,D,l,φ,h,b=>by
  unfold nX at h;unfold fQ;split at h
  ·cases h;rfl
  ·cases h
 |n+1,rem,D,l,φ,h,b=>by
  unfold nX at h;unfold fQ;split at h
  ·cases h
  ·rename_i j i c;rw[c];refine s9 (fun j a φ g b=>?_) h b;split at g
   ·rename_i D' k d;rw[BS]at g;obtain⟨r,e,f⟩:=g;cases f;rw[xG d (bM b).1];exact pn n e (bM b).2
   ·cases g
def qj (tab:Tab)(fns:FuncId→Option Func)(C:Sem1)(tk:Nat→Bool)(late:Option (List Nat))(ops:Array Oper)(m:Nat)(anc:List (List Nat))(D:US)(p:List Dc):PM US :=
 match late with
 |none=>ww tab fns C tk ops m anc D p
 |some []=>
  if wA ops m then
   match fQ tab fns C tk ops m (List.range m) D with
   |some U::l=>eC (some (U,p,[eV l U])) (dU tab fns C tk ops (ops.toList.drop m) m)
   |_=>none
  else none
 |some σ =>
  if sq σ ops.size&&(pF tk (bm σ ops) m anc&&(a9 (bm σ ops) (m+1)).all (fun t=>decide (t<D.length))&&(killAll (a9 (bm σ ops) (m+1)) D).all (fun s=>(dz tk (bm σ ops) (m+1)).all fun u => !bH u s))then
   eC (lY tab fns C tk (bm σ ops) (m+1) anc m 0 (killAll (a9 (bm σ ops) (m+1)) D) p) fun a r =>
    eC (lY tab fns C tk (bm σ ops) (m+1) anc 1 m a r) fun b c =>
     match yM tab fns C tk (bm σ ops) ((List.range ops.size).drop (m+1)) b c with
     |some (seg,d)=>
      match nX tab fns C tk (bm σ ops) seg (ops.size-(m+1)) ((List.range ops.size).drop (m+1)) b,nX tab fns C tk (bm σ ops) seg (ops.size-m) ((List.range ops.size).drop m) a with
      |some (some U::l,e),some (l2,f)=>some (U,d,eV l U::eV l2 U::(e++f))
      |_,_=>none
     |none=>none
  else none
theorem kW {tab:Tab}{fns:FuncId→Option Func}{C:Sem1}{tk:Nat→Bool}{late:Option (List Nat)}{ops:Array Oper}{m:Nat}{anc:List (List Nat)}{D V:US}{p r:List Dc}{φ:List Prop}(h:qj tab fns C tk late ops m anc D p=some (V,r,φ))(e:bq φ):
  runDL tab fns C tk late ops m anc D=some V:=by
 unfold qj at h;unfold runDL;rcases late with _|(_|⟨F,σ⟩)
 ·exact yC h e
 ·simp only at h ⊢;unfold runD3;split at h
  case isFalse=>cases h
  rename_i d;rw[BZ d];split at h
  case h_2=>cases h
  rename_i U l s;rw[s];simp only;obtain⟨t,u,v,w,f,a,g,b⟩:=b5 h e;cases f;rw[BZ a.1];exact bR _ _ g b
 ·simp only at h ⊢;unfold runD2;split at h
  case isFalse=>cases h
  rename_i d;rw[Cf]at d;rw[BZ d];obtain⟨t,u,v,w,f,a,g,b⟩:=b5 h e;rw[kh _ _ f a,BU];obtain⟨G,H,I,J,x,i,c,j⟩:=b5 g b;rw[kh _ _ x i,BU];split at c
  case h_2=>cases c
  rename_i seg K o;split at c
  case h_2=>cases c
  rename_i U l y l2 z k n;cases c;obtain⟨A,B,q⟩:=j;rw[pn _ k (bM q).1,pn _ n (bM q).2];simp only;rw[BZ ⟨A,B⟩]
def ic (tab:Tab)(fns:FuncId→Option Func)(C:Sem1)(h:ee)(n:Nat):Code→US→List Dc→PM (Exit×US)
 | .skip,D,p=>some ((.normal,D),p,[])
 | .region id ops draw,D,p =>
  match draw with
  |true =>
   match h.draw id with
   |some (m,anc)=>eC (qj tab fns C (h.take id) (h.late id) ops m anc (match h.keep id with|some l=>forget l D|none=>D) p) fun D' r=>some ((.normal,D'),r,[])
   |none=>none
  |false=>if(lW ops.toList).isNone then eC (dU tab fns C (h.take id) ops ops.toList 0 (match h.keep id with|some l=>forget l D|none=>D) p) fun D' r=>some ((.normal,D'),r,[])else none
 | .seq x y,D,p=>eC (ic tab fns C h n x D p) fun s r=>match s.1 with| .normal=>ic tab fns C h n y s.2 r|e=>some ((e,s.2),r,[])
 | .cond c x y,D,p =>
  match boolOf mkU D c with
  |some b=>if b then ic tab fns C h n x D p else ic tab fns C h n y D p
  |none=>none
 | .block id c,D,p=>eC (ic tab fns C h n c D p) fun s r=>match s.1 with| .exit a=>some ((if a=id then .normal else .exit a,s.2),r,[])|e=>some ((e,s.2),r,[])
 | .exit id,D,p=>some ((.exit id,D),p,[])
 | .ret,D,p=>some ((.ret,D),p,[])
 | .loop c,D,p =>
  match p with
  | .lp e D'::r=>some ((e,D'),r,[∀(R:Type)(K:Exit→US→Option R),ka (fun D K=>cv tab fns C h n c D fun e D'=>K e (canon h c e D')) n (atHead h c D) K=K e D'])
  |_=>none
 |_,_,_=>none
theorem jr {tab:Tab}{fns:FuncId→Option Func}{C:Sem1}{h:ee}{n:Nat}:∀(c:Code){D:US}{p:List Dc}{e:Exit}{D':US}{r:List Dc}{φ:List Prop},
  ic tab fns C h n c D p=some ((e,D'),r,φ)→bq φ→∀{R:Type}(K:Exit→US→Option R),cv tab fns C h n c D K=K e D'
 | .skip,D,p,e,D',r,φ,hh,a,R,K=>by cases hh;rfl
 | .region id ops draw,D,p,e,D',r,φ,hh,a,R,K=>by
  simp only[ic]at hh;simp only[cv];cases draw with
  |true =>
   simp only at hh ⊢;cases j:h.draw id with
   |none=>rw[j]at hh;cases hh
   |some v =>
    obtain⟨m,anc⟩:=v;rw[j]at hh;simp only at hh ⊢;obtain⟨D1,q,s,t,f,d,g,i⟩:=b5 hh a;cases g;cases k:h.keep id with
    |none =>simp only[k]at f ⊢;rw[kW f d,BU]
    |some l =>simp only[k]at f ⊢;rw[kW f d,BU]
  |false =>
   simp only at hh ⊢;split at hh
   case isFalse=>cases hh
   rename_i o;rw[Ea]at o;rw[o];simp only;obtain⟨D1,q,s,t,f,d,g,i⟩:=b5 hh a;cases g;cases k:h.keep id with
   |none =>simp only[k]at f ⊢;rw[bR _ _ f d,BU]
   |some l =>simp only[k]at f ⊢;rw[bR _ _ f d,BU]
 | .seq x y,D,p,e,D',r,φ,hh,a,R,K=>by
  simp only[ic]at hh;simp only[cv];obtain⟨⟨u,D1⟩,q,s,t,f,d,g,i⟩:=b5 hh a;rw[jr x f d];cases u with
  |normal=>exact jr y g i K
  |_=>cases g;rfl
 | .cond c x y,D,p,e,D',r,φ,hh,a,R,K=>by
  simp only[ic]at hh;simp only[cv];split at hh
  ·rename_i b hb;try rw[hb]
   cases b
   ·exact jr y hh a K
   ·exact jr x hh a K
  ·cases hh
 | .block id c,D,p,e,D',r,φ,hh,a,R,K=>by
  simp only[ic]at hh;simp only[cv];obtain⟨⟨u,D1⟩,q,s,t,f,d,g,i⟩:=b5 hh a;rw[jr c f d];cases u with
  |exit w =>cases g;simp only;split<;>rfl
  |_=>cases g;rfl
 | .exit id,D,p,e,D',r,φ,hh,a,R,K=>by cases hh;rfl
 | .ret,D,p,e,D',r,φ,hh,a,R,K=>by cases hh;rfl
 | .loop c,D,p,e,D',r,φ,hh,a,R,K=>by
  simp only[ic]at hh;simp only[cv];split at hh
  ·cases hh;exact a.1 R K
  ·cases hh
 | .rangeFunc ..,D,p,e,D',r,φ,hh,a,R,K=>by cases hh
 | .scope _,D,p,e,D',r,φ,hh,a,R,K=>by cases hh
 | .label _,D,p,e,D',r,φ,hh,a,R,K=>by cases hh
 | .goto _,D,p,e,D',r,φ,hh,a,R,K=>by cases hh
 | .refuse _,D,p,e,D',r,φ,hh,a,R,K=>by cases hh
def oZ {R:Type}(D:US)(d:Nat)(c:Bool)(n:Nat)(p:List Dc)(K:US→List Dc→PM R):PM R :=
 match p with
 | .b true::r =>
  match K (putA D d (.one (.v (.bool (!c))))) r with
  |some (a,q,φ)=>
   match K (putA D d (.one (.v (.bool c)))) q with
   |some (b,e,ψ)=>some (a,e,(n=0)::(a=b)::(φ++ψ))
   |none=>none
  |none=>none
 | .b false::r =>
  match K (putA D d (.one (.v (.bool c)))) r with
  |some (a,q,φ)=>some (a,q,(n≠0)::φ)
  |none=>none
 |_=>none
theorem uE {R:Type}{D:US}{d:Nat}{f:Bool}{n:Nat}{p q:List Dc}{K:US→List Dc→PM R}{K':US→Option R}{a:R}{φ:List Prop}(h:oZ D d f n p K=some (a,q,φ))(b:bq φ)
  (c:∀D p a q φ,K D p=some (a,q,φ)→bq φ→K' D=some a):lM D d f n K'=some a:=by
 unfold oZ at h;unfold lM;split at h
 ·split at h
  case h_2=>cases h
  rename_i g i j e;split at h
  case h_2=>cases h
  rename_i t u v k;cases h;obtain⟨l,m,o⟩:=b;obtain⟨r,s⟩:=bM o;subst m;rw[BZ l,c _ _ _ _ _ e r];simp only;rw[BZ (c _ _ _ _ _ k s)]
 ·split at h
  case h_2=>cases h
  rename_i g i j e;cases h;rw[Cd b.1,c _ _ _ _ _ e b.2]
 ·cases h
def ie (tab:Tab)(fns:FuncId→Option Func)(C:Sem1)(h:ee)(n:Nat){R:Type}:Code→US→List Dc→(Exit→US→List Dc→PM R)→PM R
 | .skip,D,p,K=>K .normal D p
 | .region id ops draw,D,p,K =>
  match draw with
  |true =>
   match h.draw id with
   |some (m,anc)=>eC (qj tab fns C (h.take id) (h.late id) ops m anc (match h.keep id with|some l=>forget l D|none=>D) p) fun D' r=>K .normal D' r
   |none=>none
  |false =>
   match lW ops.toList with
   |some (init,t,x,d,g)=>eC (dU tab fns C (h.take id) ops init 0 (match h.keep id with|some l=>forget l D|none=>D) p) fun D' r =>
    match kF mkU tab D' t x with
    |some n=>if d<D'.length then oZ D' d g n r (K .normal)else none
    |none=>none
   |none=>eC (dU tab fns C (h.take id) ops ops.toList 0 (match h.keep id with|some l=>forget l D|none=>D) p) fun D' r=>K .normal D' r
 | .seq x y,D,p,K=>ie tab fns C h n x D p fun e D' r=>match e with| .normal=>ie tab fns C h n y D' r K|e=>K e D' r
 | .cond c x y,D,p,K =>
  match boolOf mkU D c with
  |some b=>if b then ie tab fns C h n x D p K else ie tab fns C h n y D p K
  |none=>none
 | .block id c,D,p,K=>ie tab fns C h n c D p fun e D' r=>match e with| .exit f=>if f=id then K .normal D' r else K (.exit f) D' r|e=>K e D' r
 | .exit id,D,p,K=>K (.exit id) D p
 | .ret,D,p,K=>K .ret D p
 | .loop c,D,p,K =>
  match p with
  | .lp e D'::r =>
   match K e D' r with
   |some (a,q,φ)=>some (a,q,(∀(R:Type)(K:Exit→US→Option R),ka (fun D K=>cv tab fns C h n c D fun e D'=>K e (canon h c e D')) n (atHead h c D) K=K e D')::φ)
   |none=>none
  |_=>none
 |_,_,_,_=>none
theorem jt {tab:Tab}{fns:FuncId→Option Func}{C:Sem1}{h:ee}{n:Nat}{R:Type}:∀(c:Code){K:Exit→US→List Dc→PM R}{K':Exit→US→Option R},(∀e D p a q φ,K e D p=some (a,q,φ)→bq φ→K' e D=some a) →
  ∀{D:US}{p q:List Dc}{a:R}{φ:List Prop},ie tab fns C h n c D p K=some (a,q,φ)→bq φ→cv tab fns C h n c D K'=some a
 | .skip,K,K',f,D,p,q,a,φ,hh,i=>f _ _ _ _ _ _ hh i
 | .region id ops draw,K,K',f,D,p,q,a,φ,hh,i=>by
  simp only[ie]at hh;simp only[cv];cases draw with
  |true =>
   simp only at hh ⊢;cases w:h.draw id with
   |none=>rw[w]at hh;cases hh
   |some I =>
    obtain⟨m,anc⟩:=I;rw[w]at hh;simp only at hh ⊢;obtain⟨D1,B,z,F,k,j,s,o⟩:=b5 hh i;cases u:h.keep id with
    |none =>simp only[u]at k ⊢;rw[kW k j,BU];exact f _ _ _ _ _ _ s o
    |some l =>simp only[u]at k ⊢;rw[kW k j,BU];exact f _ _ _ _ _ _ s o
  |false =>
   simp only at hh ⊢;split at hh
   ·rename_i init t x d L A;rw[A];simp only;obtain⟨D1,B,z,F,k,j,s,o⟩:=b5 hh i;split at s
    case h_2=>cases s
    rename_i n' G;split at s
    case isFalse=>cases s
    rename_i hd;have H:=uE (K':=K' .normal) s o fun D p a q φ=>f _ _ _ _ _ _
    cases u:h.keep id with
    |none =>simp only[u]at k ⊢;rw[bR _ _ k j,BU,G];simp only;rw[BZ hd,H]
    |some l =>simp only[u]at k ⊢;rw[bR _ _ k j,BU,G];simp only;rw[BZ hd,H]
   ·rename_i A;rw[A];simp only;obtain⟨D1,B,z,F,k,j,s,o⟩:=b5 hh i;cases u:h.keep id with
    |none =>simp only[u]at k ⊢;rw[bR _ _ k j,BU];exact f _ _ _ _ _ _ s o
    |some l =>simp only[u]at k ⊢;rw[bR _ _ k j,BU];exact f _ _ _ _ _ _ s o
 | .seq x y,K,K',f,D,p,q,a,φ,hh,i=>by
  simp only[ie]at hh;simp only[cv];refine jt x (fun e D p a q φ g v=>?_) hh i;cases e with
  |normal=>exact jt y f g v
  |_=>exact f _ _ _ _ _ _ g v
 | .cond c x y,K,K',f,D,p,q,a,φ,hh,i=>by
  simp only[ie]at hh;simp only[cv];split at hh
  ·rename_i b hb;rw[hb];cases b
   ·exact jt y f hh i
   ·exact jt x f hh i
  ·cases hh
 | .block id c,K,K',f,D,p,q,a,φ,hh,i=>by
  simp only[ie]at hh;simp only[cv];refine jt c (fun e D p a q φ g v=>?_) hh i;cases e with
  |exit J =>
   simp only at g ⊢;split at g
   ·rename_i hid;rw[BZ hid];exact f _ _ _ _ _ _ g v
   ·rename_i hid;rw[Cd hid];exact f _ _ _ _ _ _ g v
  |_=>exact f _ _ _ _ _ _ g v
 | .exit id,K,K',f,D,p,q,a,φ,hh,i=>f _ _ _ _ _ _ hh i
 | .ret,K,K',f,D,p,q,a,φ,hh,i=>f _ _ _ _ _ _ hh i
 | .loop c,K,K',f,D,p,q,a,φ,hh,i=>by
  simp only[ie]at hh;simp only[cv];split at hh
  case h_2=>cases hh
  split at hh
  case h_2=>cases hh
  rename_i e D' r M N z k;cases hh;rw[i.1];exact f _ _ _ _ _ _ k i.2
 | .rangeFunc ..,K,K',f,D,p,q,a,φ,hh,i=>by cases hh
 | .scope _,K,K',f,D,p,q,a,φ,hh,i=>by cases hh
 | .label _,K,K',f,D,p,q,a,φ,hh,i=>by cases hh
 | .goto _,K,K',f,D,p,q,a,φ,hh,i=>by cases hh
 | .refuse _,K,K',f,D,p,q,a,φ,hh,i=>by cases hh
def so (tab:Tab)(fns:FuncId→Option Func)(C:Sem1)(h:ee)(k:Nat)(f:FuncId)(fn:Func)(as:List (Sl Unit Unit))(p:List Dc):Option (URes×List Prop):=
 match fn.body with
 |some c =>
  if(vZ as fn&&(tab.gv.contains f ||yk ((aQ 0 as).map (·.1)) c))=true then
   match ie tab fns C h k c (as++List.replicate (fn.ntmps-as.length) .any) p fun e D q=>(yH tab (tab.gv.contains f) fn (aQ 0 as) e D).map fun rs=>(rs,q,[])with
   |some (rs,_,φ)=>some (rs,φ)
   |none=>none
  else none
 |none=>none
theorem xC {tab:Tab}{fns:FuncId→Option Func}{hints:FuncId→ee}{orc:Sem1→Sem1}{k:Nat}{f:FuncId}{fn:Func}{as:List (Sl Unit Unit)}(p:List Dc){rs:URes}{φ:List Prop}
  (hf:fns f=some fn) (d:orc (kK tab fns hints orc k) f as=none) (h:so tab fns (kK tab fns hints orc k) (hints f) k f fn as p=some (rs,φ)) (i:bq φ):kK tab fns hints orc (k+1) f as=some rs:=by
 unfold so at h;simp only[kK,d,hf];split at h
 ·rename_i c hc;try rw[hc]
  try simp only
  split at h
  ·rename_i b;rw[BZ b];split at h
   ·rename_i rs' r n j;cases h;exact jt c (fun e D p a q φ g o=>by rw[BS]at g;obtain⟨s,l,m⟩:=g;cases m;exact l) j i
   ·cases h
  ·cases h
 ·cases h
mutual
theorem Shape.noLent {δ:Type}:∀(ty:Ty)(ts:List (T δ)),Shape ty ts→∀u∈ts,u.noLent=true
 | .bool,ts,h,u,a=>by obtain⟨b,rfl⟩:=h;simp at a;subst a;rfl
 | .int k,ts,h,u,a=>by obtain⟨b,rfl,_⟩:=h;simp at a;subst a;rfl
 | .str,ts,h,u,a=>by obtain⟨b,rfl,_⟩:=h;simp at a;subst a;rfl
 | .slice e,ts,h,u,a=>by obtain⟨d,rows,rfl,_⟩:=h;simp at a;subst a;rfl
 | .struct fs,ts,h,u,a=>ShapeF.noLent fs ts h u a
theorem ShapeF.noLent {δ:Type}:∀(fs:Fs)(ts:List (T δ)),ShapeF fs ts→∀u∈ts,u.noLent=true
 | .nil,ts,h,u,a=>by simp only[ShapeF]at h;subst h;simp at a
 | .cons t r,ts,h,u,a=>by
  obtain⟨xs,ys,rfl,b,c⟩:=h;rcases Cm.1 a with q|q
  ·exact Shape.noLent t xs b u q
  ·exact ShapeF.noLent r ys c u q
end
theorem sv {w:World}{D:DSt}{u:DT}(a:u.isOwn=false∧∀b∈bl u,b<w.heap.size)(c:u.noLent=true):aB ⟨w,[],noY⟩ D u:=by
 cases u with
 |v x=>trivial
 |any=>trivial
 |s k d z r=>cases k<;>first|(cases a.1;done)|(cases c;done)|exact fun x e=>zV (a.2 x e)
theorem AOk.agg {w:World}{ts:List DT}{cs:Array Value}(R:Reads w ts cs.toList)(b:∀u∈ts,u.noLent=true):AOk w [] noY (.agg ts) (.agg cs)∧(Sl.agg ts:DSl).isHome=false :=
 have h:(Sl.agg ts:DSl).isHome=false:=by show ts.any T.isOwn=false;rw[Dp];exact fun u a=>by rw[(R.far u a).1];exact CF
 ⟨⟨fun _=>⟨cs,rfl,R.cells⟩,⟨R.holds,fun u a c=>absurd c (by rw[(R.far u a).1];exact CF),trivial⟩,fun _ _ u a=>sv (R.far u a) (b u a),ep (dS h)⟩,h⟩
theorem AOk.one {w:World}{t:DT}{y:Value}(R:Reads w [t] [y])(b:t.noLent=true):AOk w [] noY (.one t) y∧(Sl.one t:DSl).isHome=false :=
 have h:(Sl.one t:DSl).isHome=false:=(R.far t (by simp)).1
 ⟨⟨fun _=>R.cells.2 0 t y rfl rfl,⟨fun u a=>R.holds u (by simpa[af]using a),fun u a c=>absurd c (by rw[(R.far u (by simpa[rootsO]using a)).1];exact CF),trivial⟩,
  fun _ _ u a=>by
   have:u=t:=by simpa[af]using a
   subst this;exact sv (R.far u (by simp)) b,ep (dS h)⟩,h⟩
def ArgsIn (w:World)(ad:List DSl)(b:List Value):Prop:=ArgsOk w [] noY ad b∧∀a∈ad,a.isHome=false
theorem ArgsIn.nil (w:World):ArgsIn w [] []:=⟨ArgsOk.nil w [] noY,fun a h=>by cases h⟩
theorem ArgsIn.cons {w:World}{a:DSl}{y:Value}{as:List DSl}{ys:List Value}(h:AOk w [] noY a y∧a.isHome=false)(g:ArgsIn w as ys):ArgsIn w (a::as) (y::ys):=
 ⟨g.1.consN h.1 h.2,fun b hb=>by
  rcases Cq.1 hb with rfl|hb
  ·exact h.2
  ·exact g.2 b hb⟩
theorem Grew.below {w w':World}(g:Grew w w'):RowKit.Below w.heap.size w w':=⟨g.os,g.tape,g.output,g.size,g.same⟩
theorem CallsOk.plain {P:Program}{B:Base}{C:Sem1}(p:CallsOk P B C){f:FuncId}{as:List (Sl Unit Unit)}{x:Value}(h:C f as=some [(false,[.v x])]){w:World}(q:B.ok w []){ad:List DSl}{m:List Value}(u:ad.map Sl.er=as)(n:ArgsIn w ad m):
  Calls P f m.toArray w fun e w'=>e = .returned x∧RowKit.Below w.heap.size w w':=by
 refine(p f as _ h w [] noY ad m q u n.1).mono ?_;rintro e w' ⟨v,od,rd,rfl,g,j,A,R⟩;have:=OutsOk.none n.2 A;subst this;rw[qx]at j;refine⟨?_,g.grew.below⟩
 match rd,j,R with
 |[(D,ts)],j,R =>
  simp only[erR,Cc,Cu,CX,DC,Du]at j;obtain⟨rfl,i⟩:=j;rcases R.val with⟨r,l,o⟩|⟨l,_⟩|⟨d,z,row,fs,l,_⟩
  ·cases l;simp only[VPart,Ch,CD]at o;obtain⟨t,rfl,hv⟩:=o;simp at i;cases t with
   |v y =>rw[ca]at i;cases i;rw[show v=_ from hv.1]
   |any=>cases i
   |s k d z r=>rw[ak]at i;cases i
  ·exact absurd rfl l
  ·simp only[CX,DC,Du]at l;rw[l.2]at i;simp at i
 |[],j,R=>simp[erR]at j
 |a::b::c,j,R=>simp[erR]at j
def Ev (P:Nat→Prop):Prop:=∃N,∀k,N≤k→P k
theorem Ev.c {p:Prop}(h:p):Ev fun _=>p:=⟨0,fun _ _=>h⟩
theorem Ev.mono {P Q:Nat→Prop}(h:Ev P)(f:∀k,P k→Q k):Ev Q:=by obtain⟨N,h⟩:=h;exact⟨N,fun k a=>f k (h k a)⟩
theorem Ev.and {P Q:Nat→Prop}(h:Ev P)(g:Ev Q):Ev fun k=>P k∧Q k:=by obtain⟨N,h⟩:=h;obtain⟨M,g⟩:=g;exact⟨max N M,fun k a=>⟨h k (by omega),g k (by omega)⟩⟩
def AllE:List (Nat→Prop)→Prop|[]=>True| φ::a=>Ev φ∧AllE a
theorem AllE.ev:∀{φ:List (Nat→Prop)},AllE φ→Ev fun k=>bq (φ.map fun ψ=>ψ k)
 |[],_=>⟨0,fun _ _=>trivial⟩
 |_::_,h=>(Ev.and h.1 (AllE.ev h.2)).mono fun _ h=>h
structure Env where
 tab:Tab
 fns:FuncId→Option Func
 hints:FuncId→ee
 orc:Sem1→Sem1
noncomputable abbrev Env.C (E:Env)(k:Nat):Sem1:=kK E.tab E.fns E.hints E.orc k
def Does (E:Env)(f:FuncId)(as:List (Sl Unit Unit))(rs:URes):Prop:=Ev fun k=>E.C k f as=some rs
theorem Br {E:Env}{f:FuncId}{fn:Func}{as:List (Sl Unit Unit)}(p:List Dc){rs:URes}(φ:List (Nat→Prop))
  (hf:E.fns f=some fn) (a:∀C,E.orc C f as=none) (h:∀k,so E.tab E.fns (E.C k) (E.hints f) k f fn as p=some (rs,φ.map fun ψ=>ψ k)) (b:AllE φ):Does E f as rs:=by
 obtain⟨N,c⟩:=b.ev;refine⟨N+1,fun k d=>?_⟩;obtain⟨k,rfl⟩:∃j,k=j+1:=⟨k-1,by omega⟩
 exact xC p hf (a _) (h k) (c k (by omega))
theorem Does.orc {E:Env}{f:FuncId}{as:List (Sl Unit Unit)}{rs:URes}(h:Ev fun k=>E.orc (E.C k) f as=some rs):Does E f as rs:=by
 obtain⟨N,h⟩:=h;refine⟨N+1,fun k a=>?_⟩;obtain⟨k,rfl⟩:∃j,k=j+1:=⟨k-1,by omega⟩
 show kK E.tab E.fns E.hints E.orc (k+1) f as=some rs;simp only[kK];rw[h k (by omega)]
theorem By {E:Env}{f:FuncId}{as:List (Sl Unit Unit)}{rs rs':URes}(h:Does E f as rs)(e:rs=rs'):Does E f as rs':=e ▸ h
theorem AD {E:Env}{f:FuncId}{as:List (Sl Unit Unit)}{rs:URes}{φ:List (Nat→Prop)}(h:Does E f as rs)(t:AllE φ):AllE ((fun k=>E.C k f as=some rs)::φ):=⟨h,t⟩
theorem AV {ψ:Nat→Prop}{φ:List (Nat→Prop)}(h:Ev ψ)(t:AllE φ):AllE (ψ::φ):=⟨h,t⟩
theorem AC {p:Prop}{φ:List (Nat→Prop)}(h:p)(t:AllE φ):AllE ((fun _=>p)::φ):=⟨⟨0,fun _ _=>h⟩,t⟩
theorem AN:AllE []:=trivial
theorem BA {E:Env}{f:FuncId}{as:List (Sl Unit Unit)}{b a:Bool}(h:Does E f as [(false,[.v (.bool b)])])(e:b=a):Does E f as [(false,[.v (.bool a)])]:=e ▸ h
abbrev rT:Dc := .ret [(false,[.v (.bool true)])]
abbrev rF:Dc := .ret [(false,[.v (.bool false)])]
abbrev tI (n:Int):T Unit := .v (.int .i64 n)
abbrev tY (n:Int):T Unit := .v (.int .u8 n)
abbrev tB (b:Bool):T Unit := .v (.bool b)
abbrev tS (s:Ej):T Unit := .v (.string s)
def jn:Code→List Code| .seq x y=>jn x++jn y| .cond _ x y=>jn x++jn y| .block _ c=>jn c| .loop c=>c::jn c|_=>[]
def aS (fn:Func)(i:Nat):Code:=(jn (fn.body.getD .skip)).getD i .skip
def Round (E:Env)(f:FuncId)(c:Code)(D:US)(e:Exit)(D':US):Prop :=Ev fun k=>∀(R:Type)(K:Exit→US→Option R),(cv E.tab E.fns (E.C k) (E.hints f) k c D fun e D'=>K e (canon (E.hints f) c e D'))=K e D'
noncomputable def tU (E:Env)(f:FuncId)(k:Nat)(c:Code)(D:US)(p:List Dc):Option ((Exit×US)×List Prop):=
 match ic E.tab E.fns (E.C k) (E.hints f) k c D p with
 |some ((e,D1),_,φ)=>some ((e,canon (E.hints f) c e D1),φ)
 |none=>none
theorem Bq {E:Env}{f:FuncId}{c:Code}{D:US}(p:List Dc){e:Exit}{D':US}(φ:List (Nat→Prop))(h:∀k,tU E f k c D p=some ((e,D'),φ.map fun ψ=>ψ k))(a:AllE φ):Round E f c D e D' :=
 a.ev.mono fun k b R K=>by
  have h:=h k;unfold tU at h;split at h
  ·rename_i g D1 r i d;cases h;exact jr c d b _
  ·cases h
abbrev vA (E:Env)(f:FuncId)(c:Code)(D:US)(e:Exit)(D':US)(k m:Nat):Prop :=∀(R:Type)(K:Exit→US→Option R),ka (fun D K=>cv E.tab E.fns (E.C k) (E.hints f) k c D fun e D'=>K e (canon (E.hints f) c e D')) m D K=K e D'
def Loops (E:Env)(f:FuncId)(c:Code)(D:US)(e:Exit)(D':US):Prop:=∃N,∀k,N≤k→∀m,N≤m→vA E f c D e D' k m
theorem Loops.ev {E:Env}{f:FuncId}{c:Code}{D:US}{e:Exit}{D':US}(h:Loops E f c D e D'):Ev fun k=>vA E f c D e D' k k:=by obtain⟨N,h⟩:=h;exact⟨N,fun k a=>h k a k a⟩
theorem Bu {E:Env}{f:FuncId}{c:Code}{D:US}{e:Exit}{D':US}(h:Round E f c D e D')(a:e ≠ .normal:=by intro h;cases h):Loops E f c D e D':=by
 obtain⟨N,h⟩:=h;refine⟨N+1,fun k b m d R K=>?_⟩;obtain⟨m,rfl⟩:∃j,m=j+1:=⟨m-1,by omega⟩
 simp only[ka];refine(h k (by omega) R _).trans ?_;cases e with
 |normal=>exact absurd rfl a
 |_=>rfl
theorem Bt {E:Env}{f:FuncId}{c:Code}{D:US}{e:Exit}{D1 D':US}(h:Round E f c D .normal D1)(g:Loops E f c D1 e D'):Loops E f c D e D':=by
 obtain⟨N,h⟩:=h;obtain⟨M,g⟩:=g;refine⟨N+M+1,fun k a m b R K=>?_⟩;obtain⟨m,rfl⟩:∃j,m=j+1:=⟨m-1,by omega⟩
 simp only[ka];refine(h k (by omega) R _).trans ?_;exact g k (by omega) m (by omega) R K
def Ans {α:Type}(o:Option α)(Q:α→Prop):Prop:=∀r,o=some r→Q r
theorem Bs {α:Type}{r:α}{Q:α→Prop}(h:Q r):Ans (some r) Q:=fun _ e=>by cases e;exact h
theorem Ans.none {α:Type}{Q:α→Prop}:Ans (none:Option α) Q:=fun _ e=>by cases e
theorem Bv {α:Type}{Q:α→Prop}{c:Bool}{a b:Option α}(t:c=true→Ans a Q)(f:c=false→Ans b Q):Ans (cond c a b) Q:=by
 cases c
 ·exact f rfl
 ·exact t rfl
theorem Bw {α β:Type}{Q:β→Prop}{x:Option α}{f:α→Option β}(h:∀y,x=Option.some y→Ans (f y) Q):Ans (x.bind f) Q:=by intro r e;rw[BT]at e;obtain⟨y,a,b⟩:=e;exact h y a r b
theorem Bx {α:Type}{Q:α→Prop}{p:Prop}[Decidable p]{a:Option α}(h:p→Ans a Q):Ans (if p then a else Option.none) Q:=by
 intro r e;split at e
 ·exact h ‹_› r e
 ·cases e
theorem Ans.mono {α:Type}{Q a:α→Prop}{o:Option α}(h:Ans o Q)(f:∀x,Q x→a x):Ans o a:=fun r e=>f r (h r e)
def stL (n:Nat)(l:List (Nat×Sl Unit Unit)):US:=l.foldl (fun D p=>D.set p.1 p.2) (List.replicate n .any)
theorem Bz {E:Env}{f:FuncId}{as a:List (Sl Unit Unit)}{rs:URes}(e:as=a)(h:Does E f a rs):Does E f as rs:=e ▸ h
def etI (n:Int):List (T Unit):=[tI n]
def etY (n:Int):List (T Unit):=[tY n]
def dG {α:Type}(l:List α)(n:Int):Option α:=if 0≤n then l[n.toNat]? else none
theorem rl {α:Type}{l:List α}{n:Int}{x:α}(h:dG l n=some x):0≤n∧l[n.toNat]?=some x:=by
 unfold dG at h;split at h
 ·exact⟨‹_›,h⟩
 ·cases h
theorem xj {α β:Type}{l:List α}{n:Int}{x:α}{f:α→β}(h:dG l n=some x):0≤n∧(l.map f)[n.toNat]?=some (f x):=by obtain⟨a,b⟩:=rl h;exact⟨a,by rw[B6,b];rfl⟩
theorem y7 {α β:Type}{l:List α}{n:Int}{x:α}{f:α→β}(h:dG l n=some x):(l.map f)[0+n.toNat]?=some (f x):=by rw[Db];exact(xj h).2
theorem zP {α β:Type}{l:List α}{n:Int}{x:α}{f:α→β}(h:dG l n=some x):0≤n∧n<((l.map f).length:Int):=by
 obtain⟨b,a⟩:=rl h;refine⟨b,?_⟩;have:n.toNat<l.length:=by
  rcases BY n.toNat l.length with g|g
  ·exact g
  ·rw[BV g]at a;cases a
 rw[Ci];omega
theorem zE {α β:Type}{l:List α}{f:α→β}:((l.map f).length:Int)=(l.length:Int):=by rw[Ci]
theorem kP {α:Type}{l l2:List α}{f:α→List (T Unit)}{n:Nat}(hf:∀x,(f x).all T.flat=true)(h:(l.length+l2.length)*n≤140737488355328∧l.length+l2.length≤4611686018427387904):
  (l2.map f).all (fun r=>r.all T.flat)=true∧((l.map f).length+(l2.map f).length)*n≤140737488355328∧(l.map f).length+(l2.map f).length≤4611686018427387904:=by
 refine⟨?_,by simpa using h.1,by simpa using h.2⟩;rw[CQ,B2];exact fun x _=>hf x
theorem iN {α β:Type}{l l2:List α}{f:α→β}:l.map f++l2.map f=(l++l2).map f:=by rw[Dh]
theorem qd:∀(l:List Int),ce (l.map etY)=some l
 |[]=>rfl
 |n::l=>by show(ce (l.map etY)).map _=_;rw[qd l];rfl
theorem zK {l:List Int}:(ce (l.map etY)).map strOfNums=some (strOfNums l):=by rw[qd];rfl
def fM (s:Ej):List Int:=s.data.toList.map fun b=>(b.toNat:Int)
theorem u7 {s:Ej}:(da s:List (List (T Unit)))=(fM s).map etY:=by unfold da fM;rw[Ct];rfl
def jo (x y:Int):Int:=if y<x then y else x
theorem Does.plain {P:Program}{E:Env}(b:ax P E.tab)(hf:dB P E.fns){B:Base}(c:∀C,CallsOk P B C→CallsOk P B (E.orc C)){f:FuncId}{as:List (Sl Unit Unit)}{x:Value}(h:Does E f as [(false,[.v x])]){w:World}(d:B.ok w []){ad:List DSl}{a:List Value}(g:ad.map Sl.er=as)(i:ArgsIn w ad a):
  Calls P f a.toArray w fun e w'=>e = .returned x∧RowKit.Below w.heap.size w w':=by
 obtain⟨N,h⟩:=h;exact CallsOk.plain (mw b hf E.hints c N) (h N (Cz _)) d g i
def wb (P:Program)(a:List Nat)(f:FuncId):Option Func:=if a.contains f=true then P.funcs[f]? else none
theorem yl {P : Program} {a : List Nat} (h : (a.all fun k => match P.funcs[k]? with | some f => !(f.name == "runtime.NumGoroutine") && !f.body.isNone | none => false) = true) : dB P (wb P a) := by
 intro f fn hf;unfold wb at hf;split at hf
 case isFalse=>cases hf
 rename_i hc;have q:=B2.1 h f (by simpa using hc);rw[hf]at q;simp only[Cf]at q;exact⟨hf,by simpa using q.1,by simpa using q.2⟩
class cV (α:Type) where
 sm:α→Prop
instance:cV Int:=⟨fun _=>True⟩
instance:cV Bool:=⟨fun _=>True⟩
instance:cV Ej:=⟨fun s=>s.size≤1050000⟩
instance  {α:Type}[cV α]:cV (List α):=⟨fun l=>l.length≤1050000∧∀y∈l,cV.sm y⟩
theorem fO (n:Int)(h : -9223372036854775808≤n)(a:n≤9223372036854775807):IntKind.wrap .i64 n=n:=by simp only[IntKind.wrap,IntKind.bits,IntKind.signed];simp;omega
abbrev inc (x:Int):Int:=IntKind.wrap .i64 (x+(1:Int))
theorem xr (x:Int)(h : -9223372036854775809≤x)(a:x<9223372036854775807):inc x=x+1:=fO _ (by omega) (by omega)
theorem ym {α:Type}(l:List α)(i:Nat):dG l (i:Int)=l[i]?:=by unfold dG;rw[BZ (by omega)];simp
theorem zS (i:Nat)(h:i<9223372036854775807):IntKind.wrap .i64 ((i:Int)+1)=((i+1:Nat):Int):=by rw[fO _ (by omega) (by omega)];omega
section
variable  {α : Type}{l : List α}{i : Nat}{x : α}{r : List α}
theorem cq (h:l.drop i=[]):decide ((i:Int)<(l.length:Int))=false:=DE (by have:=List.drop_eq_nil_iff.1 h;omega)
theorem pS (h:l.drop i=x::r):i<l.length:=by
 rcases BY i l.length with g|g
 ·exact g
 ·rw[List.drop_eq_nil_of_le g]at h;cases h
theorem bI (h:l.drop i=x::r):decide ((i:Int)<(l.length:Int))=true:=DF (by have:=pS h;omega)
theorem cr (h:l.drop i=x::r):dG l (i:Int)=some x:=by have hi:=pS h;rw[DD hi]at h;cases h;rw[ym,BW hi]
theorem bJ (h:l.drop i=x::r)(a:l.length≤9223372036854775807):inc (i:Int)=((i+1:Nat):Int):=zS i (by have:=pS h;omega)
theorem bK (h:l.drop i=x::r):l.drop (i+1)=r:=by have hi:=pS h;rw[DD hi]at h;cases h;rfl
end
section
variable  {α : Type}{done rest : List α}{i : Nat}{hd x : α}
end
section
variable  {s : Ej}{i : Nat}{x : Int}{r : List Int}
end
class Wf (α:Type) where
 wf:α→Prop
instance:Wf Int:=⟨fun _=>True⟩
instance:Wf Bool:=⟨fun _=>True⟩
instance:Wf Ej:=⟨fun s=>s.size≤9223372036854775807⟩
instance  {α:Type}[Wf α]:Wf (List α):=⟨fun l=>l.length≤9223372036854775807∧∀y∈l,Wf.wf y⟩
def Tot {α:Type}(o:Option α):Prop:=∃b,o=some b
theorem Tot.some {α:Type}(b:α):Tot (some b):=⟨b,rfl⟩
theorem Tot.cond {α:Type}{c:Bool}{a b:Option α}(h:Tot a)(g:Tot b):Tot (cond c a b):=by cases c;exact g;exact h
theorem Tot.ite {α:Type}{p:Prop}[Decidable p]{a:Option α}(b:p)(h:Tot a):Tot (if p then a else none):=by rw[BZ b];exact h
theorem Tot.bind {α β:Type}{a:Option α}{f:α→Option β}(h:Tot a)(g:∀y,a=Option.some y→Tot (f y)):Tot (a.bind f):=by obtain⟨b,rfl⟩:=h;exact g b rfl
theorem Tot.getD {α:Type}{o:Option α}(h:Tot o)(d:α):o=Option.some (o.getD d):=by obtain⟨b,rfl⟩:=h;rfl
theorem zi {α β:Type}{l:List α}{f:α→β}{a b:Int}(h:0≤a∧a≤b∧b≤(l.length:Int)):0≤a∧a≤b∧b≤((l.map f).length:Int):=by rw[Ci];exact h
theorem t7 {α β:Type}{l:List α}{f:α→β}{a:Int}(h:0≤a∧a≤(l.length:Int)∧(l.length:Int)≤(l.length:Int)):0≤a∧a≤((l.map f).length:Int)∧((l.map f).length:Int)≤((l.map f).length:Int):=by rw[Ci];exact h
theorem yD {α β:Type}{l:List α}{f:α→β}{a b:Nat}:((l.map f).drop a).take b=((l.drop a).take b).map f:=by rw[Dj,Dd]
theorem rv {α β:Type}{l:List α}{f:α→β}{a:Nat}:((l.map f).drop a).take (((l.map f).length:Int).toNat-a)=(l.drop a).map f:=by rw[Dd,List.take_of_length_le];simp
theorem wH {α β:Type}{l l2:List α}{f:α→β}{n:Nat}(h:(l.length+l2.length)*n≤140737488355328∧l.length+l2.length≤4611686018427387904):
  ((l.map f).length+(l2.map f).length)*n≤140737488355328∧(l.map f).length+(l2.map f).length≤4611686018427387904:=by rw[Ci,Ci];exact h
theorem kn {α:Type}{l:List α}{f:α→List (T Unit)}{n:Nat}(hf:∀x,(f x).all T.flat=true)(h:l.length*n≤140737488355328∧l.length≤4611686018427387904):
  (l.map f).all (fun r=>r.all T.flat)=true∧(([]:List (List (T Unit))).length+(l.map f).length)*n≤140737488355328∧([]:List (List (T Unit))).length+(l.map f).length≤4611686018427387904 :=
 kP (l:=[]) hf (by simpa using h)
def co (a b:Int):Int:=IntKind.wrap .i64 ((BitVec.ofInt 64 a &&& BitVec.ofInt 64 b).toNat:Int)
def dM (a b:Int):Int:=IntKind.wrap .i64 ((BitVec.ofInt 64 a ^^^ BitVec.ofInt 64 b).toNat:Int)
theorem yL {tab:Tab}{t:Nat}{k:IntKind}{a b:Int}(h:b≠0):eD tab .rem t (.int k a) (.int k b)=some (.int k (Int.tmod a b)):=by show(if k=k then(if b=0 then none else some (Value.int k (a.tmod b)))else none)=_;rw[BZ rfl,Cd h]
def cm {α:Type}(enc:α→Value)(l:List α):List (List DT):=l.map fun x=>[.v (enc x)]
theorem tV {α:Type}[Inhabited α](enc:α→Value)(l:List α){i:Nat}(h:i<l.length):(cm enc l)[i]?=some [.v (enc l[i]!)]:=by unfold cm;rw[B6,BW h,DW l i h];rfl
theorem xB {α:Type}(enc:α→Value)(l:List α):((cm enc l).flatMap fun x=>x.flatMap bl)=[]:=by rw[Ca];intro r a;obtain⟨x,_,rfl⟩:=B7.1 a;rfl
theorem wK {α:Type}(enc:α→Value)(l:List α){d:Dec}(h:d.nil=false)(k:Kd):bl (.s k d 1 (cm enc l))=[d.b]:=by rw[bv,h,xB];rfl
theorem zg {α:Type}(enc:α→Value)(l:List α):(cm enc l).map erL=l.map fun x=>[.v (enc x)]:=by unfold cm;rw[Ct];rfl
theorem kp {α:Type}[Inhabited α](enc:α→Value){w:World}{d:Dec}{l:List α}(i:l≠[])(t:Holds w (.s .own d 1 (cm enc l)))(u:OwnT w (.s .own d 1 (cm enc l))):
  Go.Sort.Holds enc w d.b d.o l.toArray∧d.b<w.heap.size∧l.length≤d.cap∧d.addr=some ⟨d.b,d.o,none⟩∧d.nil=false:=by
 have k:0<l.length:=List.length_pos_iff.2 i;generalize m:cm enc l=rows at *;have a:rows.length=l.length:=by rw[←m];simp[cm]
 cases t with
 |e=>simp at a;omega
 |s _ _ _ _ n v c e f h F G x H =>
  cases u with
  |nil=>simp at a;omega
  |s _ _ _ I J K L lo hi p M N A O =>
   rw[h]at p;cases p;refine⟨fun j q=>?_,ci h,by omega,by rw[Dec.addr_none v,n];rfl,n⟩;have g:j<l.length:=by simpa using q
   have B:rows[j]?=some [.v (enc l[j]!)]:=by rw[←m];exact tV enc l g
   obtain⟨y,r,hv⟩:=x j _ 0 _ B rfl;have C:d.o+j*1+0=d.o+j:=by omega
   rw[C]at r;have D:(l.toArray[j]!)=l[j]! := by rw[DW l.toArray j q,DW l j g];simp
   refine⟨?_,?_⟩
   ·unfold World.cell?;simp only[h];rw[D];simp only[Option.isSome_none,Ch,CD];rw[r,show y=_ from hv.1]
   ·unfold World.frozen?;simp only[h];have:=A (d.o+j) (by omega) (by omega);by_cases z:lo≤d.o+j
    ·simp[z];omega
    ·simp[z]
theorem rY {α:Type}[Inhabited α](enc:α→Value)(off:Nat)(d:Array α)(c:Array Value):(Go.Sort.putCells enc off d c).size=c.size:=by simp[Go.Sort.putCells]
theorem tR {α:Type}[Inhabited α](enc:α→Value)(off:Nat)(d:Array α)(c:Array Value){j:Nat}(h:j<d.size)(hc:off+j<c.size):(Go.Sort.putCells enc off d c)[off+j]?=some (enc d[j]!):=by simp only[Go.Sort.putCells,Array.getElem?_mapIdx,Cs hc,BQ];rw[BZ ⟨by omega,by omega⟩];congr 3;omega
theorem jz {α:Type}[Inhabited α](enc:α→Value)(w:World)(q b off:Nat)(d:Array α)(x:Nat):(Go.Sort.putRow enc (Go.Sort.ahead w q) b off d).heap[x]?=if b=x then(w.heap[x]?).map (Go.Sort.onCells (Go.Sort.putCells enc off d))else w.heap[x]?:=by unfold Go.Sort.putRow Go.Sort.mapBlock Go.Sort.ahead;simp only[DN]
theorem y8 {α:Type}[Inhabited α](enc:α→Value)(n:∀x,(enc x).oneCell'=true){w:World}{d:Dec}{l:List α}(p:l≠[])(v:Holds w (.s .own d 1 (cm enc l)))(y:OwnT w (.s .own d 1 (cm enc l)))(q:Nat){l':List α}
  (Q:l'.length=l.length) {l2:List α} (z:l2 <+: l'):
  Holds (Go.Sort.putRow enc (Go.Sort.ahead w q) d.b d.o l'.toArray) (.s .own d 1 (cm enc l2))∧OwnT (Go.Sort.putRow enc (Go.Sort.ahead w q) d.b d.o l'.toArray) (.s .own d 1 (cm enc l2)) ∧
   GrewH [d.b] w (Go.Sort.putRow enc (Go.Sort.ahead w q) d.b d.o l'.toArray):=by
 obtain⟨R,S,U,V,W⟩:=kp enc p v y;have A:0<l.length:=List.length_pos_iff.2 p;have F:l2.length≤l'.length:=z.length_le;generalize G:cm enc l=rows at *;have m:rows.length=l.length:=by rw[←G];simp[cm]
 cases v with
 |e=>simp at m;omega
 |s _ _ _ _ H I c e f B X Y Z q7 =>
  cases y with
  |nil=>simp at m;omega
  |s _ _ _ J K c' e' lo hi C L D M p7 =>
   rw[B]at C;cases C;have hb:(Go.Sort.putRow enc (Go.Sort.ahead w q) d.b d.o l'.toArray).heap[d.b]?=some (.cells (Go.Sort.putCells enc d.o l'.toArray c) e (lo,hi)):=by rw[jz,BZ rfl,B];rfl
   have k:∀(i:Nat)(row:List DT),(cm enc l2)[i]?=some row→i<l2.length∧row=[.v (enc l2[i]!)]:=by
    intro i row h;have hi:i<l2.length:=by
     rcases BY i l2.length with g|g
     ·exact g
     ·rw[BV (by simpa[cm]using g)]at h;cases h
    rw[tV enc l2 hi]at h;cases h;exact⟨hi,rfl⟩
   have r:∀i,i<l2.length→l2[i]! = l'.toArray[i]! := by intro i hi;rw[DW l2 i hi,DW l'.toArray i (by simp;omega)];simp only[List.getElem_toArray];exact(z.getElem hi)
   have N:d.o+l.length≤c.size:=by have:=CH L (Cz _);have a:d.o+d.cap*1≤c.size:=D;omega
   refine⟨.s _ _ _ _ H I _ e (lo,hi) hb (by simp[cm];omega) (fun i row h=>by rw[(k i row h).2];rfl) (fun i row j t u a=>?_) (fun i row j t u a=>?_),
    .s _ _ _ J K _ e lo hi hb (by simp[cm];omega) (by rw[rY];exact D) M (fun i row j t u a=>?_),⟨rfl,rfl,rfl,?_,fun b hb O=>?_⟩⟩
   ·obtain⟨hi,rfl⟩:=k i row u;cases j with
    |succ j=>simp at a
    |zero =>
     simp only[CO,Ck]at a;subst a;refine⟨enc l2[i]!,?_,rfl,n _⟩;have P:d.o+i*1+0=d.o+i:=by omega
     rw[P,tR enc d.o l'.toArray c (by simp;omega) (by omega),r i hi]
   ·obtain⟨hi,rfl⟩:=k i row u;cases j with
    |succ j=>simp at a
    |zero=>simp only[CO,Ck]at a;subst a;exact .v _
   ·obtain⟨hi,rfl⟩:=k i row u;cases j with
    |succ j=>simp at a
    |zero=>simp only[CO,Ck]at a;subst a;exact .v _
   ·show w.heap.size≤(w.heap.modify d.b _).size;simp
   ·rw[jz,Cd (fun h=>O (by simp[h]))]
theorem RetOk.plain {w w':World}{X:List Nat}{Y:Nat→Prop}{x:Value}(h:x.oneCell'=true):RetOk w X Y w' [] [] [(false,[.v x])] x where
 val := .inl ⟨_,rfl,by simp only[VPart,Ch,CD];exact⟨_,rfl,rfl,h⟩⟩
 kind:=fun r a t c=>by rw[Co,B4]at a;subst a;rw[B4]at c;subst c;exact KindR.fine rfl
 holds:=fun r a t c=>by rw[Co,B4]at a;subst a;rw[B4]at c;subst c;exact .v _
 own:=fun r a t c _=>by rw[Co,B4]at a;subst a;rw[B4]at c;subst c;exact .v _
 once:=fun b=>by simp[aJ,ownR,T.isOwn]
 new:=fun b hb=>by simp[aJ,ownR,T.isOwn]at hb
theorem RetOk.tuple {w w':World}{X:List Nat}{Y:Nat→Prop}{xs:List Value}(h:∀x∈xs,x.oneCell'=true)(g:xs.length≠1):RetOk w X Y w' [] [] (xs.map fun x=>(false,[.v x])) (.tuple xs.toArray) where
 val := .inr (.inl ⟨by simpa using g,xs.toArray,rfl,by simp,fun i r v f d=>by
  rw[B6,BS]at f;obtain⟨x,h3,rfl⟩:=f;have e:v=x:=by simp at d;rw[h3]at d;exact(Option.some.inj d).symm
  subst e;simp only[VPart,Ch,CD];exact⟨_,rfl,rfl,h v (BR h3)⟩⟩)
 kind:=fun r a t c=>by rw[Co]at a;obtain⟨x,_,rfl⟩:=B7.1 a;rw[B4]at c;subst c;exact KindR.fine rfl
 holds:=fun r a t c=>by rw[Co]at a;obtain⟨x,_,rfl⟩:=B7.1 a;rw[B4]at c;subst c;exact .v _
 own:=fun r a t c _=>by rw[Co]at a;obtain⟨x,_,rfl⟩:=B7.1 a;rw[B4]at c;subst c;exact .v _
 once:=fun b=>by
  have:aJ ([]++xs.map fun x=>(false,[(.v x:DT)]))=[]:=by unfold aJ;rw[Ca];intro r a;rw[Co]at a;obtain⟨x,_,rfl⟩:=B7.1 a;rfl
  rw[this];simp
 new:=fun b hb=>by
  have:aJ ([]++xs.map fun x=>(false,[(.v x:DT)]))=[]:=by unfold aJ;rw[Ca];intro r a;rw[Co]at a;obtain⟨x,_,rfl⟩:=B7.1 a;rfl
  rw[this]at hb;cases hb
def lU:List (List (T Unit))→Option (List Int)
 |[]=>some []
 |[.v (.int .i64 n)]::r=>(lU r).map (n :: ·)
 |_=>none
theorem p9:∀(l:List Int),lU (l.map etI)=some l
 |[]=>rfl
 |n::l=>by show(lU (l.map etI)).map _=_;rw[p9 l];rfl
theorem tz:∀{rows:List (List DT)}{l:List Int},lU (rows.map erL)=some l→rows=cm (Value.int .i64) l
 |[],l,h=>by cases h;rfl
 |r::rows,l,h=>by
  match r with
  |[]=>cases h
  |[t]=>
   cases t with
   |any=>cases h
   |s k d z q=>simp only[Cc,erL,Cu,ak]at h;cases h
   |v x =>
    cases x with
    |int k n =>
     cases k with
     |i64 =>have a:(lU (rows.map erL)).map (n :: ·)=some l:=h;rw[BS]at a;obtain⟨l',b,rfl⟩:=a;rw[tz b];rfl
     |_=>cases h
    |_=>cases h
  |t::u::r=>cases t with
   |v x=>cases x with
    |int k n=>cases k<;>cases h
    |_=>cases h
   |any=>cases h
   |s k d z q=>simp only[Cc,erL,ak]at h;cases h
theorem AL {E:Env}{f:FuncId}{c:Code}{D D':US}{e:Exit}{φ:List (Nat→Prop)}(h:Loops E f c D e D')(t:AllE φ):AllE ((fun k=>vA E f c D e D' k k)::φ):=⟨h.ev,t⟩
theorem Round.to {E:Env}{f:FuncId}{c:Code}{D D1 D':US}{e:Exit}(h:Round E f c D e D1)(q:D1=D'):Round E f c D e D':=q ▸ h
theorem AG {α:Type}{l:List α}{n:Int}{x:α}(f:α→List (T Unit)){φ:List (Nat→Prop)}(h:dG l n=some x)(t:AllE φ):AllE ((fun _=>0≤n∧n<((l.map f).length:Int))::(fun _=>(l.map f)[0+n.toNat]?=some (f x))::φ):=⟨Ev.c (zP h),Ev.c (y7 h),t⟩
theorem AR {α:Type}{l:List α}{n:Int}{x:α}(f:α→List (T Unit)){φ:List (Nat→Prop)}(h:dG l n=some x)(t:AllE φ):AllE ((fun _=>0≤n∧(l.map f)[n.toNat]?=some (f x))::φ):=⟨Ev.c (xj h),t⟩
theorem ALn {α:Type}(l:List α)(f:α→List (T Unit)){φ:List (Nat→Prop)}(t:AllE φ):AllE ((fun _=>((l.map f).length:Int)=(l.length:Int))::φ):=⟨Ev.c zE,t⟩
theorem AAp {α:Type}{l l2:List α}{n:Nat}(f:α→List (T Unit)){φ:List (Nat→Prop)}(hf:∀x,(f x).all T.flat=true)(h:(l.length+l2.length)*n≤140737488355328∧l.length+l2.length≤4611686018427387904)(t:AllE φ):
  AllE ((fun _=>(((l2.map f).drop 0).take (l2.map f).length).all (fun r=>r.all T.flat)=true∧((l.map f).length+(((l2.map f).drop 0).take (l2.map f).length).length)*n≤140737488355328∧(l.map f).length+(((l2.map f).drop 0).take (l2.map f).length).length≤4611686018427387904)::(fun _=>(l.map f)++(((l2.map f).drop 0).take (l2.map f).length)=(l++l2).map f)::φ):=
 ⟨Ev.c (by simp only[Cb,Cg];exact kP hf h),Ev.c (by simp only[Cb,Cg];exact iN),t⟩
theorem RP {E:Env}{f:FuncId}{c:Code}{D:US}{e:Exit}{D':US}{φ:List (Nat→Prop)}(p:List Dc)(a:AllE φ)(h:∀k,tU E f k c D p=some ((e,D'),φ.map fun ψ=>ψ k):=by intro k;kernel_rfl):Round E f c D e D':=Bq p φ h a
theorem DP {E:Env}{f:FuncId}(fn:Func){as:List (Sl Unit Unit)}{rs:URes}{φ:List (Nat→Prop)}(p:List Dc)(a:AllE φ)(b:E.fns f=some fn:=by rfl)(c:∀C,E.orc C f as=none:=by intro C;rfl)(h:∀k,so E.tab E.fns (E.C k) (E.hints f) k f fn as p=some (rs,φ.map fun ψ=>ψ k):=by intro k;kernel_rfl):Does E f as rs:=Br (fn:=fn) p φ b c h a
theorem ga {α:Type}(U:α):∀n:Nat,eV (List.replicate n (some U)) U
 | 0=>trivial
 |n+1=>⟨rfl,ga U n⟩
abbrev BG (n:Int):Bool×List (T Unit):=(false,[tI n])
abbrev BH (n:Bool):Bool×List (T Unit):=(false,[tB n])
abbrev BI (n:Ej):Bool×List (T Unit):=(false,[tS n])
abbrev BJ (n:Int):Sl Unit Unit:=.one (tI n)
abbrev BK (n:Bool):Sl Unit Unit:=.one (tB n)
abbrev BL (n:Ej):Sl Unit Unit:=.one (tS n)
abbrev BM (n:Int):Dc:=.val (.int .i64 n)
abbrev BN (n:Nat):List Nat:=List.range n
abbrev BO (n:Nat)(r:List (List (T Unit))):T Unit:=.s .own () n r
abbrev BP (n:Nat)(r:List (List (T Unit))):T Unit:=.s .far () n r
end Go.Proofs.Yticaelmbkfeeaaa.Am
