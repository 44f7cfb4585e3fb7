/- An abstract machine over trees: paths, loops, and what functions tell. Conditions: none. -/
import Derived.Test.YtlhgcolciklecaaAmd
import Derived.Below
import Derived.Sort.Row
import Derived.KernelRfl
namespace Go.Proofs.Ytlhgcolciklecaa.Am
open Go
set_option linter.unusedVariables false
set_option linter.unusedSimpArgs false
inductive Dc where|b (x:Bool)|no|val (z:Value)|row (r:List (T Unit))|rows (r:List (List (T Unit)))|ret (rs:URes)|lp (e:Exit) (D:US)
abbrev PM (α:Type):=Option (α×List Dc×List Prop)
def b5:List Prop→Prop|[]=>True| φ::a=>φ∧b5 a
theorem fF:∀{φ ψ:List Prop},b5 (φ++ψ)→b5 φ∧b5 ψ
 |[],ψ,h=>⟨trivial,h⟩
 |a::φ,ψ,h=>by obtain⟨b,c⟩:=h;obtain⟨d,e⟩:=fF c;exact⟨⟨b,d⟩,e⟩
def bK (p:List Dc){α:Type}(x:Option α):PM α:=x.map fun s=>(s,p,[])
def pY:T Unit→List (Nat×Nat)→List Dc→PM (T Unit)
 |u,[],p=>some (u,p,[])
 | .s _ _ _ rows,(i,c)::st,.row row::r =>
  match row[c]? with
  |some v=>match pY v st r with|some (x,q,φ)=>some (x,q,(rows[i]?=some row)::φ)|none=>none
  |none=>none
 |_,_,_=>none
theorem pm:∀(st:List (Nat×Nat)){u x:T Unit}{p q:List Dc}{φ:List Prop},pY u st p=some (x,q,φ)→b5 φ→getN u st=some x
 |[],u,x,p,q,φ,h,b=>by cases u<;>(cases h;rfl)
 |(i,c)::st,u,x,p,q,φ,h,b=>by
  unfold pY at h;split at h
  ·rename_i a;cases a
  ·rename_i rows g j d row r a;cases a;split at h
   ·rename_i v hv;split at h
    ·rename_i k l m e;cases h;have f:=pm st e b.2;show((rows[i]?).bind (·[c]?)).bind (getN · st)=_;rw[b.1,Eg,hv,Eg,f]
    ·cases h
   ·cases h
  ·cases h
def tK (tab:Tab)(D:US)(t:Nat)(x:Sl Unit Unit)(n:Int)(p:List Dc):PM (Sl Unit Unit):=
 match x with
 | .one (.s k _ z rows)=>
  match p,tab.ti t with
  | .row row::r,some ⟨_,_,_,.slice e⟩=>if k = .own then none else if((tab.ti e).map (·.size))=some z then some (.im k () row 0,r,[0≤n∧rows[n.toNat]?=some row])else none
  |_,_=>none
 | .al h c st lo len =>
  match tab.ti t,am D h c with
  |some ⟨_,_,_,.slice e⟩,some u =>
   match pY u st p with
   |some (.s _ _ z _,r,φ)=>if((tab.ti e).map (·.size))=some z then some (.pe h c st (lo+n.toNat) 0,r,(0≤n∧n<(len:Int))::φ)else none
   |_=>none
  |_,_=>none
 |_=>none
def uy (tab:Tab)(D:US)(t:Nat)(x:Sl Unit Unit)(lo hi:Option Int)(p:List Dc):PM (Sl Unit Unit):=
 match x with
 | .one (.v (.string s))=>
  if((tab.ti t).map (·.sh))=some .str then
   some (.one (.v (.string (s.extract (lo.getD 0).toNat (hi.getD s.size).toNat))),p,[0≤lo.getD 0∧lo.getD 0≤hi.getD s.size∧hi.getD s.size≤(s.size:Int)])
  else none
 | .one (.s k _ z rows)=>
  if k = .own then none else
  match p,tab.ti t with
  | .rows R::r,some ⟨_,_,_,.slice e⟩=>
   if((tab.ti e).map (·.size))=some z then
    some (.one (.s k.unr () z R),r,[0≤lo.getD 0∧lo.getD 0≤hi.getD rows.length∧hi.getD rows.length≤(rows.length:Int),(rows.drop (lo.getD 0).toNat).take ((hi.getD rows.length).toNat-(lo.getD 0).toNat)=R])
   else none
  |_,_=>none
 | .al h c st l len =>
  match tab.ti t with
  |some ⟨_,_,_,.slice e⟩=>
   if((tab.ti e).map (·.size))=iS D h c st then
    some (.al h c st (l+(lo.getD 0).toNat) ((hi.getD len).toNat-(lo.getD 0).toNat),p,[0≤lo.getD 0∧lo.getD 0≤hi.getD len∧hi.getD len≤(len:Int)])
   else none
  |_=>none
 |_=>none
def xf (D:US)(ti:TI)(s:Sl Unit Unit)(p:List Dc):PM (Sl Unit Unit):=
 match s,p with
 | .pe h c st i o,.row b::d =>
  match am D h c with
  |some u =>
   if u.isOwn then
    match pY u st (.row b::d)with
    |some (.s _ _ _ rows,.row row::r,φ)=>
     if o+ti.size≤row.length then
      if ti.sh.agg then some (.agg (((row.drop o).take ti.size).map (T.view (.lent h c false))),r,(rows[i]?=some row)::φ)else
      match(row.drop o).take ti.size with
      |[.s .own _ _ a]=>some (.al h c (st++[(i,o)]) 0 a.length,r,(rows[i]?=some row)::φ)
      |[u]=>some (.one (u.view (.lent h c false)),r,(rows[i]?=some row)::φ)
      |_=>none
     else none
    |_=>none
   else none
  |none=>none
 |_,_=>bK p (en D ti s)
theorem aW {α:Type}{p r:List Dc}{x:Option α}{s:α}{φ:List Prop}(h:bK p x=some (s,r,φ)):x=some s:=by unfold bK at h;rw[Ei]at h;obtain⟨a,b,c⟩:=h;cases c;exact b
theorem yq {tab:Tab}{D:US}{t:Nat}{x s:Sl Unit Unit}{n:Int}{p r:List Dc}{φ:List Prop}(h:tK tab D t x n p=some (s,r,φ))(c:b5 φ):dD mkU D tab t x n=some s:=by
 unfold tK at h;unfold dD;split at h
 ·split at h
  ·rename_i a;split at h
   ·cases h
   ·rename_i e;split at h
    ·rename_i hz;cases h;rw[a];simp only;rw[Eu e,Ej hz,Ej c.1.1,c.1.2];rfl
    ·cases h
  ·cases h
 ·split at h
  ·rename_i a b;split at h
   ·rename_i d;split at h
    ·rename_i hz;cases h;have f:=pm _ d c.2;rw[a];simp only[iS,bC,b,Eg,f];rw[Ej hz,Ej c.1]
    ·cases h
   ·cases h
  ·cases h
 ·cases h
theorem yJ {tab:Tab}{D:US}{t:Nat}{x s:Sl Unit Unit}{lo hi:Option Int}{p r:List Dc}{φ:List Prop}(h:uy tab D t x lo hi p=some (s,r,φ))(b:b5 φ):fT mkU D tab t x lo hi=some s:=by
 unfold uy at h;unfold fT;split at h
 ·split at h
  ·rename_i hs;cases h;simp only;rw[Ej hs,Ej b.1]
  ·cases h
 ·split at h
  ·cases h
  ·rename_i c;split at h
   ·rename_i a;split at h
    ·rename_i hz;cases h;rw[a];simp only;rw[Eu c,Ej hz,Ej b.1,b.2.1]
    ·cases h
   ·cases h
 ·split at h
  ·rename_i a;split at h
   ·rename_i hz;cases h;rw[a];simp only;rw[Ej hz,Ej b.1]
   ·cases h
  ·cases h
 ·cases h
theorem zy {D:US}{ti:TI}{x s:Sl Unit Unit}{p r:List Dc}{φ:List Prop}(h:xf D ti x p=some (s,r,φ))(a:b5 φ):en D ti x=some s:=by
 unfold xf at h;split at h
 ·rename_i k c st i o j y;split at h
  case h_2=>cases h
  rename_i u l;split at h
  case isFalse=>cases h
  rename_i m;split at h
  case h_2=>cases h
  rename_i rows row z n e;split at h
  case isFalse=>cases h
  rename_i q;have b:rows[i]?=some row→b5 n→rowRange D k c st i o ti.size=some ((row.drop o).take ti.size):=by intro b t;have v:=pm st e t;simp only[rowRange,l,m,EV,v,b,Eg,Ej q]
  split at h
  ·rename_i d;cases h;simp only[en,b a.1 a.2,Eg,Ej d]
  ·rename_i d;split at h
   ·rename_i f g;cases h;simp only[en,b a.1 a.2,Eg,Eu d,g]
   ·rename_i u' w g;cases h;simp only[en,b a.1 a.2,Eg,Eu d,g]
   ·cases h
 ·exact aW h
def md (D:US)(x:Operand):Option Value :=
 match opd () D x with
 |some (.one (.v z))=>some z
 |_=>none
theorem lj {D:US}{x:Operand}{z:Value}(h:md D x=some z):opd mkU.nil D x=some (.one (.v z)):=by
 unfold md at h;split at h
 ·rename_i b a;cases h;exact a
 ·cases h
def nN (D:US)(x:Operand):Option (IntKind×Int):=
 match opd () D x with
 |some (.one (.v (.int k n)))=>some (k,n)
 |_=>none
theorem nO {D:US}{x:Operand}{k:IntKind}{n:Int}(h:nN D x=some (k,n)):opd mkU.nil D x=some (.one (.v (.int k n))):=by
 unfold nN at h;split at h
 ·rename_i k' n' a;cases h;exact a
 ·cases h
def uG (D:US)(x:Operand):Option GM :=
 match opd () D x with
 |some (.one (.v (.string s)))=>some s
 |_=>none
theorem yN {D:US}{x:Operand}{s:GM}(h:uG D x=some s):opd mkU.nil D x=some (.one (.v (.string s))):=by
 unfold uG at h;split at h
 ·rename_i s' a;cases h;exact a
 ·cases h
def jU (tab:Tab)(D:US)(op:Op)(p:List Dc):PM (Sl Unit Unit):=
 match op with
 | .binOp o t x y ty =>
  match p with
  | .val z::r=>(md D x).bind fun a=>(md D y).map fun b=>(.one (.v z),r,[ex tab o t a b=some z])
  | .b d::r =>
   match(md D x).bind fun a=>(md D y).bind fun b=>ex tab o t a b with
   |some (.bool c)=>some (.one (.v (.bool d)),r,[c=d])
   |_=>match a9 mkU tab D (.binOp o t x y ty)with
    |some (.one (.v (.bool c)))=>some (.one (.v (.bool d)),r,[c=d])
    |s=>bK p s
  | .no::r=>bK r (a9 mkU tab D (.binOp o t x y ty))
  |_=>bK p (a9 mkU tab D (.binOp o t x y ty))
 | .call c =>
  match p with
  | .val (.int k m)::r =>
   match a9 mkU tab D (.call c)with
   |some (.one (.v (.int k' n)))=>if k=k' then some (.one (.v (.int k m)),r,[n=m])else none
   |_=>none
  |_=>bK p (a9 mkU tab D (.call c))
 | .indexAddr t x i=>(opd () D x).bind fun s=>(nN D i).bind fun n=>tK tab D t s n.2 p
 | .index t x i =>
  match opd () D x,p with
  |some (.clo (.arr offs) hs),.val (.int .i64 m)::r=>(nN D i).bind fun n =>
   if 0≤m∧tab.ars.lookup t=some hs.length∧offs.length=hs.length then
    match hs[m.toNat]?,offs[m.toNat]? with
    |some h,some o=>some (.pb h o,r,[n.2=m])
    |_,_=>none
   else none
  |_,_ =>
  (uG D x).bind fun s=>(nN D i).bind fun n =>if((tab.ti t).map (·.sh))=some .str then some (.one (.v (.int .u8 (fW s n.2))),p,[0≤n.2∧n.2<(s.size:Int)])else none
 | .slice t x lo hi none=>(opd () D x).bind fun s=>(dQ () D lo).bind fun l=>(dQ () D hi).bind fun h=>uy tab D t s l h p
 | .load t x=>(opd () D x).bind fun s=>(tab.ti t).bind fun ti=>if ti.sh = .other then none else xf D ti s p
 |op=>bK p (a9 mkU tab D op)
theorem iz {tab:Tab}{D:US}{op:Op}{p r:List Dc}{s:Sl Unit Unit}{φ:List Prop}(h:jU tab D op p=some (s,r,φ))(g:b5 φ):a9 mkU tab D op=some s:=by
 unfold jU at h;split at h
 ·rename_i o t x y ty;split at h
  ·rename_i z u;simp only[Eh,Ei]at h;obtain⟨a,v,b,hb,h⟩:=h;cases h;simp only[a9,lj v,lj hb,g.1];rfl
  ·rename_i d u;split at h
   ·rename_i c hc;simp only[Eh]at hc;obtain⟨a,v,b,hb,hc⟩:=hc;cases h;cases g.1;simp only[a9,lj v,lj hb,hc];rfl
   ·split at h
    ·rename_i c hc;cases h;cases g.1;exact hc
    ·exact aW h
  ·exact aW h
  ·exact aW h
 ·rename_i c;split at h
  ·rename_i k m u;split at h
   ·rename_i k' n F;split at h
    ·rename_i G;cases h;cases G;cases g.1;exact F
    ·cases h
   ·cases h
  ·exact aW h
 ·rename_i t x i;simp only[Eh]at h;obtain⟨s',q,⟨k,n⟩,j,e⟩:=h;have f:opd mkU.nil D x=some s':=q;simp only[a9,f,nO j];exact yq e g
 ·rename_i t x i;split at h
  ·rename_i offs hs m u H;rw[Eh]at h;obtain⟨⟨k,n⟩,j,e⟩:=h;split at e
   case isFalse=>cases e
   rename_i hc;split at e
   case h_2=>cases e
   rename_i L o hh I;cases e;have J:n=m:=g.1;subst J;have w:opd mkU.nil D x=some (.clo (.arr offs) hs):=H;simp only[a9,w,nO j];rw[Ej hc];simp only[hh,I]
  simp only[Eh]at h;obtain⟨s',q,⟨k,n⟩,j,e⟩:=h;split at e
  ·rename_i hs;cases e;simp only[a9,yN q,nO j];rw[Ej hs,Ej g.1]
  ·cases e
 ·rename_i t x lo hi;simp only[Eh]at h;obtain⟨s',q,l,j,hh,e,K⟩:=h;have f:opd mkU.nil D x=some s':=q;have A:dQ mkU.nil D lo=some l:=j;have B:dQ mkU.nil D hi=some hh:=e;simp only[a9,f,A,B];exact yJ K g
 ·rename_i t x;simp only[Eh]at h;obtain⟨s',q,ti,j,e⟩:=h;have f:opd mkU.nil D x=some s':=q;split at e
  ·cases e
  ·rename_i C;simp only[a9,f,j];rw[Eu C];exact zy e g
 ·exact aW h
def mN (D:US)(q:Sl Unit Unit)(us:List (T Unit))(p:List Dc):PM US :=
 match q,p with
 | .pe h c [] i off,.row row :: .rows R::r =>
  if us.all T.fine then
   match am D h c with
   |some t =>
    if t.isOwn then
     match t with
     | .s _ _ _ rows =>
      if off+us.length≤row.length then
       (bU (fun n=>match n with| .s k d z _=>some (.s k d z R)|_=>none)
        (St.dead (bM h c) (qSt (((row.drop off).take us.length).all T.flat) h c) D) h c []).map fun D'=>(D',r,[rows[i]?=some row,rows.set i (ao row off us)=R])
      else none
     |_=>none
    else none
   |none=>none
  else none
 | .pe h c [(e,f)] i off,.row a :: .row row :: .rows g :: .rows R::r =>
  if us.all T.fine then
   match am D h c with
   |some t =>
    if t.isOwn then
     match t with
     | .s _ _ _ b =>
      match a[f]? with
      |some (.s k' j l rows)=>
       if off+us.length≤row.length then
        (bU (fun n=>match n with| .s k d z _=>some (.s k d z R)|_=>none)
         (St.dead (bM h c) (qSt (((row.drop off).take us.length).all T.flat) h c) D) h c []).map fun D' =>(D',r,[b[e]?=some a,rows[i]?=some row,rows.set i (ao row off us)=g,b.set e (a.set f (.s k' j l g))=R])
       else none
      |_=>none
     |_=>none
    else none
   |none=>none
  else none
 | .pe h c st i off,.row row::r =>
  if us.all T.fine then
   match am D h c with
   |some t =>
    if t.isOwn then
     match getN t st with
     |some (.s _ _ _ rows)=>
      if off+us.length≤row.length then
       (bU (fun n=>match n with| .s k d z rows=>if off+us.length≤row.length then some (.s k d z (rows.set i (ao row off us)))else none|_=>none)
        (St.dead (bM h c) (qSt (((row.drop off).take us.length).all T.flat) h c) D) h c st).map fun D'=>(D',r,[rows[i]?=some row])
      else none
     |_=>none
    else none
   |none=>none
  else none
 |_,_=>bK p (dH D q us)
section
variable  {δ β : Type}
theorem ix {p:Nat→Nat→Bool}{t:T δ}(h:t.isOwn=true):t.dead p=t:=by
 cases t with
 |v x=>rfl
 |any=>rfl
 |s k d z r=>cases k<;>simp_all[T.isOwn,T.dead]
theorem p8 (p:Nat→Nat→Bool)(q:Nat→Nat→Bool→Bool)(s:Sl δ β):aD (s.dead p q)=(aD s).map (List.map (T.dead p)):=by
 cases s with
 |al h c st lo len=>simp only[Sl.dead];split<;>rfl
 |pe h c st i off=>simp only[Sl.dead];split<;>rfl
 |im k b ts off =>
  simp only[Sl.dead];split
  ·split<;>rfl
  ·rfl
 |_=>rfl
theorem eH (p:Nat→Nat→Bool)(q:Nat→Nat→Bool→Bool)(D:St δ β)(h c:Nat):am (St.dead p q D) h c=(am D h c).map (T.dead p):=by
 unfold am St.dead;rw[Et];cases D[h]? with
 |none=>rfl
 |some s =>
  simp only[Ee,Eg,p8];cases aD s with
  |none=>rfl
  |some cs=>simp[Et]
theorem qu {f g:T δ→Option (T δ)}{n:T δ}(e:f n=g n):∀(st:List (Nat×Nat)){t:T δ},getN t st=some n→cV f t st=cV g t st
 |[],t,h=>by cases h;simp only[cV];exact e
 |(i,c)::st,t,h=>by
  cases t with
  |v x=>simp[getN]at h
  |any=>simp[getN]at h
  |s k d z rows =>simp only[getN,Eh]at h;obtain⟨u,⟨row,hi,a⟩,b⟩:=h;simp only[cV,hi,a,Eg];rw[qu e st b]
end
theorem o6 {D D':US}{q:Sl Unit Unit}{us:List (T Unit)}{p r:List Dc}{φ:List Prop}(h:mN D q us p=some (D',r,φ))(m:b5 φ):dH D q us=some D':=by
 unfold mN at h;split at h
 ·rename_i u c i off row R v;split at h
  case isFalse=>cases h
  rename_i a;split at h
  case h_2=>cases h
  rename_i t e;split at h
  case isFalse=>cases h
  rename_i g;split at h
  case h_2=>cases h
  rename_i k d z rows;split at h
  case isFalse=>cases h
  rename_i j;rw[Ei]at h;obtain⟨D1,n,o⟩:=h;cases o;simp only[dH,a,EV,e,g,getN,m.1,Ej j];rw[←n];unfold bU;rw[eH,e];simp only[Ee,Eg,ix g,cV,setRow,m.1];rw[Ej j,Eg, ←m.2.1]
 ·rename_i u c w x i off y row K R v;split at h
  case isFalse=>cases h
  rename_i a;split at h
  case h_2=>cases h
  rename_i t e;split at h
  case isFalse=>cases h
  rename_i g;split at h
  case h_2=>cases h
  rename_i k d z b;split at h
  case h_2=>cases h
  rename_i k' F G rows l;split at h
  case isFalse=>cases h
  rename_i j;rw[Ei]at h;obtain⟨D1,n,o⟩:=h;cases o;obtain⟨A,B,H,I,_⟩:=m;have s:getN (.s k d z b) [(w,x)]=some (.s k' F G rows):=by show((b[w]?).bind (·[x]?)).bind (getN · [])=_;rw[A,Eg,l,Eg];rfl
  simp only[dH,a,EV,e,g,s,B,Ej j];rw[←n];unfold bU;rw[eH,e];simp only[Ee,Eg,ix g,cV,setRow,A,l,B];rw[Ej j];simp only[Ee,Eg,H,I]
 ·rename_i u c st i off row v J C;split at h
  case isFalse=>cases h
  rename_i a;split at h
  case h_2=>cases h
  rename_i t e;split at h
  case isFalse=>cases h
  rename_i g;split at h
  case h_2=>cases h
  rename_i k d z rows s;split at h
  case isFalse=>cases h
  rename_i j;rw[Ei]at h;obtain⟨D1,n,o⟩:=h;cases o;simp only[dH,a,EV,e,g,s,m.1,Ej j];rw[←n];unfold bU;rw[eH,e];simp only[Ee,Eg,ix g];rw[qu (f:=setRow i off us) ?_ st s];simp only[setRow,m.1,Eg];rw[Ej j]
 ·exact aW h
def sw (tab:Tab)(D:US)(dst:Option Nat)(t:Nat)(l c:Operand)(p:List Dc):PM US :=
 match p with
 | .rows R::r =>
  match tab.ti t,dst,(opd mkU.nil D l).bind intOfSl,(opd mkU.nil D c).bind intOfSl with
  |some ⟨_,_,_,.slice e⟩,some d,some n,some k =>
   match tab.ti e with
   |some a =>
    if d<D.length∧a.size≠0∧a.zero.length=a.size then
     some (aE D (some d) (.one (.s .own () a.size R)),r,[0≤n∧n≤k∧(a.bytes:Int)*k≤281474976710656∧k≤4611686018427387904,List.replicate n.toNat (a.zero.map (T.inj ()))=R])
    else none
   |none=>none
  |_,_,_,_=>none
 |_=>none
theorem tP {tab:Tab}{D D':US}{dst:Option Nat}{t:Nat}{l c:Operand}{p r:List Dc}{φ:List Prop}(h:sw tab D dst t l c p=some (D',r,φ))(e:b5 φ):ct mkU frU tab D dst t l c=some D':=by
 unfold sw at h;split at h
 case h_2=>cases h
 split at h
 case h_2=>cases h
 rename_i b f hc;split at h
 case h_2=>cases h
 rename_i j d;split at h
 case isFalse=>cases h
 rename_i a;cases h;obtain⟨g,i,_⟩:=e;unfold ct;try rw[b]
 try rw[f]
 try rw[hc]
 try simp only
 try rw[d]
 try simp only
 rw[Ej a,Ej g, ←i]
def qy (tab:Tab)(D:US)(dst:Option Nat)(t g:Nat)(s x:Operand)(p:List Dc):PM US :=
 match p with
 | .rows R::r =>
  match tab.ti t,tab.ti g,dst,cellsTake mkU D s with
  |some ⟨_,_,_,.slice e⟩,some ⟨_,_,_,.slice _⟩,some c,some (false,[.s .own _ z rows],D1)=>
   match tab.ti e with
   |some b =>
    match b.zero.all T.flat with
    |true =>
     match cellsCopy mkU D1 x with
     |some (false,[.s _ _ d a])=>
      if c<D1.length∧b.size=z∧b.size≠0∧b.zero.length=b.size∧d=z then
       some (aE D1 (some c) (.one (.s .own () z R)),r,
        [a.all (fun r=>r.all T.flat)=true∧(rows.length+a.length)*b.bytes≤140737488355328∧rows.length+a.length≤4611686018427387904,rows++a=R])
      else none
     |_=>none
    |false =>
     match cellsTake mkU D1 x with
     |some (false,[.s .own _ d a],f)=>
      if c<f.length∧b.size=z∧b.size≠0∧b.zero.length=b.size∧d=z then
       some (aE f (some c) (.one (.s .own () z R)),r,
        [(rows.length+a.length)*b.bytes≤140737488355328∧rows.length+a.length≤4611686018427387904,rows++a=R])
      else none
     |_=>none
   |none=>none
  |_,_,_,_=>none
 |_=>none
theorem wC {tab:Tab}{D D':US}{dst:Option Nat}{t i:Nat}{s x:Operand}{p r:List Dc}{φ:List Prop}(h:qy tab D dst t i s x p=some (D',r,φ))(j:b5 φ):ga mkU frU tab D dst t i s x=some D':=by
 unfold qy at h;split at h
 case h_2=>cases h
 split at h
 case h_2=>cases h
 rename_i d b hs;split at h
 case h_2=>cases h
 rename_i k e;unfold ga;try rw[d]
 try rw[b]
 try rw[hs]
 try simp only
 try rw[e]
 try simp only
 split at h
 ·rename_i a;split at h
  case h_2=>cases h
  rename_i f;split at h
  case isFalse=>cases h
  rename_i hc;cases h;obtain⟨c,g,_⟩:=j;rw[a];simp only[mn,f];rw[Ej c.1];simp only;rw[Ej hc,Ej c.2, ←g];try rfl
 ·rename_i a;split at h
  case h_2=>cases h
  rename_i f;split at h
  case isFalse=>cases h
  rename_i hc;cases h;obtain⟨c,g,_⟩:=j;rw[a];simp only[mn,f];rw[Ej hc,Ej c, ←g];try rfl
def zF (D:US)(dst:Option Nat)(rows:List (List (T Unit)))(p:List Dc):PM US :=
 match p with
 | .val (.string st)::r=>(ck D dst (.one (.v (.string st)))).map fun D'=>(D',r,[(ci rows).map strOfNums=some st])
 |_=>none
theorem Aj {D D':US}{dst:Option Nat}{rows:List (List (T Unit))}{p r:List Dc}{φ:List Prop}(h:zF D dst rows p=some (D',r,φ))(a:b5 φ):
  ((ci rows).bind fun xs=>ck D dst (.one (.v (.string (strOfNums xs)))))=some D':=by
 unfold zF at h;split at h
 ·rename_i st e;rw[Ei]at h;obtain⟨D1,b,c⟩:=h;cases c;have:=a.1;rw[Ei]at this;obtain⟨xs,d,rfl⟩:=this;rw[d,Eg,b]
 ·cases h
def ou (tab:Tab)(D:US)(dst:Option Nat)(a t:Nat)(x:Operand)(p:List Dc):PM US :=
 match p with
 | .rows R::r =>
  match tab.ti a,tab.ti t,dst,opd mkU.nil D x with
  |some ⟨_,_,_,.str⟩,some ⟨_,_,_,.slice e⟩,some d,some (.one (.v (.string s)))=>
   match tab.ti e with
   |some ⟨1,_,_,.int .u8⟩=>if d<D.length then some (aE D (some d) (.one (.s .own () 1 R)),r,[ed s=R])else none
   |_=>none
  |_,_,_,_=>none
 |_=>none
theorem uF {tab:Tab}{D D':US}{dst:Option Nat}{a t:Nat}{x:Operand}{p r:List Dc}{φ:List Prop}(h:ou tab D dst a t x p=some (D',r,φ))(b:b5 φ):dh mkU frU tab D dst a t x=some D':=by
 unfold ou at h;split at h
 case h_2=>cases h
 split at h
 case h_2=>cases h
 rename_i hs c d;split at h
 case h_2=>cases h
 rename_i e;split at h
 case isFalse=>cases h
 rename_i hd;cases h;have f:=b.1;unfold dh;try rw[hs]
 try rw[c]
 try rw[d]
 try simp only
 try rw[e]
 try simp only
 rw[Ej hd, ←f];try rfl
def nF (D:US)(x:Operand)(p:List Dc):PM (Sl Unit Unit×US):=
 match x with
 | .tmp t =>
  match D[t]? with
  |some (.al h c [] lo len)=>
   match am D h c with
   |some (.s .own d z rows)=>if lo=0 then(bU (fun _=>some .any) (St.dead (bM h c) (qHC h c) D) h c []).map fun D'=>((.one (.s .own d z rows),D'),p,[len=rows.length])else none
   |_=>none
  |some (.al h c [(i,j)] lo len)=>
   match am D h c,p with
   |some (.s .own d z rows),.row row::r =>
    match row[j]? with
    |some (.s .own b e a)=>if lo=0 then(c7 (St.dead (bM h c) (qHC h c) D) h c (.s .own d z (rows.set i (row.set j .any)))).map fun D'=>((.one (.s .own b e a),D'),r,[rows[i]?=some row,len=a.length])else none
    |_=>none
   |_,_=>none
  |_=>bK p (homeTake D x)
 |_=>none
theorem tt {D:US}{x:Operand}{p r:List Dc}{s:Sl Unit Unit×US}{φ:List Prop}(h:nF D x p=some (s,r,φ))(m:b5 φ):homeTake D x=some s:=by
 unfold nF at h;split at h
 ·rename_i t;split at h
  ·rename_i e c lo len f;split at h
   ·rename_i d z rows hc;split at h
    ·rename_i a;rw[Ei]at h;obtain⟨D',g,k⟩:=h;cases k;have l:bC D e c []=some (.s .own d z rows):=by simp only[bC,hc,Eg,getN]
     simp only[homeTake,f,l];rw[Ej ⟨a,m.1⟩,g];rfl
    ·cases h
   ·cases h
  ·rename_i e c i j lo len f;split at h
   ·rename_i d z rows row w hc;split at h
    ·rename_i q u b n;split at h
     ·rename_i a;rw[Ei]at h;obtain⟨D',g,k⟩:=h;cases k;obtain⟨o,v,_⟩:=m;have l:bC D e c [(i,j)]=some (.s .own q u b):=by simp only[bC,hc,Eg,getN,o,n]
      simp only[homeTake,f,l];rw[Ej ⟨a,v⟩];unfold bU;rw[eH,hc];simp only[Ee,Eg,ix (t:=T.s .own d z rows) rfl,cV,o,n,g]
     ·cases h
    ·cases h
   ·cases h
  ·exact aW h
 ·cases h
def nE (D D1:US)(x:Operand)(o:Bool×List (T Unit))(p:List Dc):PM US :=
 match x with
 | .tmp t =>
  match D[t]? with
  |some (.al h c [] _ _)=>
   match am D h c,o.2 with
   |some (.s .own d z _),[.s .own _ b a]=>if b=z then bK p (c7 (St.dead (bM h c) (gA h c) D) h c (.s .own d z a))else none
   |_,_=>none
  |some (.al h c [(i,j)] _ _)=>
   match am D h c,p,o.2 with
   |some (.s .own d z rows),.row row :: .rows R::r,[.s .own _ b a]=>
    match row[j]? with
    |some (.s .own f e _)=>if b=e then(c7 (St.dead (bM h c) (gA h c) D) h c (.s .own d z R)).map fun D'=>(D',r,[rows[i]?=some row,rows.set i (row.set j (.s .own f e a))=R])else none
    |_=>none
   |_,_,_=>none
  |_=>bK p (homePut0 D D1 x o)
 |_=>none
theorem tr {D D1 D':US}{x:Operand}{o:Bool×List (T Unit)}{p r:List Dc}{φ:List Prop}(h:nE D D1 x o p=some (D',r,φ))(n:b5 φ):homePut0 D D1 x o=some D':=by
 unfold nE at h;split at h
 ·rename_i t;split at h
  ·rename_i e c lo len f;split at h
   ·rename_i d z rows q u a hc g;split at h
    ·rename_i hz;have h:=aW h;have k:bC D e c []=some (.s .own d z rows):=by simp only[bC,hc,Eg,getN]
     simp only[homePut0,f,k,g];rw[Ej hz];unfold bU;rw[eH,hc];simp only[Ee,Eg,ix (t:=T.s .own d z rows) rfl,cV,fS,h]
    ·cases h
   ·cases h
  ·rename_i e c i j lo len f;split at h
   ·rename_i d z rows row R C q u a hc g;split at h
    ·rename_i v w b l;split at h
     ·rename_i hz;rw[Ei]at h;obtain⟨F,y,A⟩:=h;cases A;obtain⟨m,B,_⟩:=n;have k:bC D e c [(i,j)]=some (.s .own v w b):=by simp only[bC,hc,Eg,getN,m,l]
      simp only[homePut0,f,k,g];rw[Ej hz];unfold bU;rw[eH,hc];simp only[Ee,Eg,ix (t:=T.s .own d z rows) rfl,cV,m,l,fS,B,y]
     ·cases h
    ·cases h
   ·cases h
  ·exact aW h
 ·cases h
def po (D D1:US)(x:Operand)(o:Bool×List (T Unit))(p:List Dc):PM US:=if pZ o=true then some (D1,p,[])else nE D D1 x o p
theorem u5 {D D1 D':US}{x:Operand}{o:Bool×List (T Unit)}{p r:List Dc}{φ:List Prop}(h:po D D1 x o p=some (D',r,φ))(b:b5 φ):homePut D D1 x o=some D':=by
 unfold po at h;unfold homePut;split at h
 ·rename_i a;cases h;rw[Ej a]
 ·rename_i a;rw[Eu a];exact tr h b
def sC (tab:Tab)(fns:FuncId→Option Func)(C:Sem1)(D:US)(o:Oper)(tk:Bool)(p:List Dc):PM US :=
 match callTo D o with
 |some (f,xs,caps)=>
  if(fns f).isSome then
   match tab.addr.lookup f with
   |some offs=>bK p (addrSl D o.dst offs xs caps)
   |none =>
   match tab.io.lookup f with
   |none=>(argsW mkU tab f D xs).bind fun as =>
    match p with
    | .ret rs::r=>if lF (caps.isEmpty&&xs.all (opdFar mkU D)) rs=true then(putRet mkU D o.dst rs).map fun D'=>(D',r,[C f (as++ims caps)=some rs])else none
    |_=>none
   |some i =>
    match caps,xs[i]? with
    |[],some x =>
     match nF D x p with
     |some (t,d,e)=>(argsIo mkU t.2 t.1 i xs).bind fun as =>
      match d with
      | .ret (q::rs)::g =>
       if lF ((xs.eraseIdx i).all (opdFar mkU t.2)) (q::rs)=true then
        match po D t.2 x q g with
        |some (h,j,k)=>(putRet mkU (repP D x h) o.dst rs).map fun D'=>(D',j,e++([C f as=some (q::rs)]++k))
        |none=>none
       else none
      |_=>none
     |none=>none
    |_,_=>none
  else none
 |none =>
  match o.op with
  | .store t b x =>
   match kO tab t x with
   |some z =>
    match o.dst,tab.ti t with
    |none,some ti=>if ti.size=1 then(opd () D b).bind fun q=>mN D q [.s .own () z []] p else none
    |_,_=>none
   |none =>
    match o.dst,tab.ti t,cellsOf mkU D x tk with
    |none,some ti,some (_,us,D1)=>if us.length=ti.size∧0<us.length then(opd () D1 b).bind fun q=>mN D1 q us p else none
    |_,_,_=>none
  | .alloc _=>bK p (bQ mkU frU tab D o tk)
  | .box _ _=>bK p (bQ mkU frU tab D o tk)
  | .move _=>bK p (bQ mkU frU tab D o tk)
  | .assign _=>bK p (bQ mkU frU tab D o tk)
  | .extract _ _=>bK p (bQ mkU frU tab D o tk)
  | .makeFunc _ _ _=>bK p (bQ mkU frU tab D o tk)
  | .buildSlice _ _ _=>bK p (bQ mkU frU tab D o tk)
  | .makeSlice t l c=>sw tab D o.dst t l c p
  | .call c =>
   match lL c with
   |some (t,m,s,x)=>qy tab D o.dst t m s x p
   |none=>(jU tab D (.call c) p).bind fun s=>(ck D o.dst s.1).map fun D'=>(D',s.2.1,s.2.2)
  | .convert a dst x =>
   match gd mkU tab D a dst x with
   |some rows=>zF D o.dst rows p
   |none =>
    match dh mkU frU tab D o.dst a dst x with
    |some _=>ou tab D o.dst a dst x p
    |none=>(jU tab D (.convert a dst x) p).bind fun s=>(ck D o.dst s.1).map fun D'=>(D',s.2.1,s.2.2)
  | .load t x=>if tk then bK p (bQ mkU frU tab D o tk)else(jU tab D (.load t x) p).bind fun s=>(ck D o.dst s.1).map fun D'=>(D',s.2.1,s.2.2)
  | .build _ _=>bK p (bQ mkU frU tab D o tk)
  |op=>(jU tab D op p).bind fun s=>(ck D o.dst s.1).map fun D'=>(D',s.2.1,s.2.2)
theorem wT {tab:Tab}{D D':US}{o:Oper}{tk:Bool}{op:Op}(d:o.op=op)(m:∀t p x,op ≠ .store t p x)(n:∀t,op ≠ .alloc t)(q:∀t x,op ≠ .box t x)(r:∀x,op ≠ .move x)(u:∀x,op ≠ .assign x)(v:∀t x,op ≠ .build t x)(w:∀x i,op ≠ .extract x i)(z:∀t l x,op ≠ .buildSlice t l x)(A:∀t l x,op ≠ .makeSlice t l x)(e:∀t x,op ≠ .load t x)(g:∀f x y,op ≠ .makeFunc f x y)(j:∀c,op ≠ .call c)(k:∀a b x,op ≠ .convert a b x)
  (h:((a9 mkU tab D op).bind fun s=>ck D o.dst s)=some D'):bQ mkU frU tab D o tk=some D':=by
 unfold bQ;split
 ·rename_i hh;rw[d]at hh;exact absurd hh (m _ _ _)
 ·rename_i hh;rw[d]at hh;exact absurd hh (n _)
 ·rename_i hh;rw[d]at hh;exact absurd hh (q _ _)
 ·rename_i hh;rw[d]at hh;exact absurd hh (r _)
 ·rename_i hh;rw[d]at hh;exact absurd hh (u _)
 ·rename_i hh;rw[d]at hh;exact absurd hh (e _ _)
 ·rename_i hh;rw[d]at hh;exact absurd hh (w _ _)
 ·rename_i hh;rw[d]at hh;exact absurd hh (g _ _ _)
 ·rename_i hh;rw[d]at hh;exact absurd hh (z _ _ _)
 ·rename_i hh;rw[d]at hh;exact absurd hh (A _ _ _)
 ·rename_i hh;rw[d]at hh;exact absurd hh (j _)
 ·rename_i hh;rw[d]at hh;exact absurd hh (k _ _ _)
 ·rename_i hh;rw[d]at hh;exact absurd hh (v _ _)
 ·rw[d];exact h
theorem uD {tab:Tab}{fns:FuncId→Option Func}{C:Sem1}{D D':US}{o:Oper}{tk:Bool}{p r:List Dc}{φ:List Prop}(h:sC tab fns C D o tk p=some (D',r,φ))(j:b5 φ):stepU tab fns C D o tk=some D':=by
 unfold sC at h;unfold stepU;split at h
 ·rename_i f xs caps hc;split at h
  ·rename_i u;split at h
   ·rename_i offs m;try rw[hc]
    try simp only
    rw[Ej u,m];exact aW h
   rename_i m;split at h
   ·rename_i v;rw[Eh]at h;obtain⟨as,b,h⟩:=h;split at h
    ·rename_i rs B;split at h
     case isFalse=>cases h
     rename_i F;rw[Ei]at h;obtain⟨D1,d,k⟩:=h;cases k;try rw[hc]
     try simp only
     rw[Ej u,m];simp only;rw[v];simp only;rw[b,Eg,j.1,Eg,Ej F,d]
    ·cases h
   ·rename_i i v;split at h
    case h_2=>cases h
    rename_i x0 G;split at h
    case h_2=>cases h
    rename_i t p1 φ1 Q;rw[Eh]at h;obtain⟨as,b,h⟩:=h;split at h
    case h_2=>cases h
    rename_i q rs p2;split at h
    case isFalse=>cases h
    rename_i F;split at h
    case h_2=>cases h
    rename_i R p3 φ2 S;rw[Ei]at h;obtain⟨D3,d,k⟩:=h;cases k;obtain⟨U,V⟩:=fF j;obtain⟨W,X⟩:=fF V;try rw[hc]
    try simp only
    rw[Ej u,m];simp only;rw[v];simp only;rw[G];simp only;rw[tt Q U,Eg,b,Eg,W.1,Eg,Ej F];simp only;rw[u5 S X,Eg,d]
  ·cases h
 ·rename_i hc;try rw[hc]
  try simp only
  split at h
  ·rename_i t O x a;unfold bQ;rw[a];simp only;split at h
   ·rename_i z hz;split at h
    case h_2=>cases h
    rename_i ti hd w;split at h
    case isFalse=>cases h
    rename_i y;rw[Eh]at h;obtain⟨q,b,d⟩:=h;have:=o6 d j;rw[hd];simp only[hz,iu,w];rw[Ej y];have A:opd mkU.nil D O=some q:=b;rw[A,Eg];exact this
   ·rename_i hz;split at h
    case h_2=>cases h
    rename_i ti g us D1 hd w H;split at h
    case isFalse=>cases h
    rename_i y;rw[Eh]at h;obtain⟨q,b,d⟩:=h;have:=o6 d j;rw[hd];simp only[hz,jE,w,H];rw[Ej y];have A:opd mkU.nil D1 O=some q:=b;rw[A,Eg,this]
  ·exact aW h
  ·exact aW h
  ·exact aW h
  ·exact aW h
  ·exact aW h
  ·exact aW h
  ·exact aW h
  ·rename_i t l c a;have:=tP h j;unfold bQ;rw[a];exact this
  ·rename_i c a;unfold bQ;rw[a];simp only;split at h
   ·rename_i t t2 s x e;try rw[e]
    try simp only
    exact wC h j
   ·rename_i e;simp only[Eh,Ei]at h;obtain⟨⟨s,B,I⟩,b,D1,d,k⟩:=h;cases k;have:=iz b j;try rw[e]
    try simp only
    rw[this,Eg,d]
  ·rename_i Y dst x a;unfold bQ;rw[a];simp only;split at h
   ·rename_i rows e;try rw[e]
    try simp only
    exact Aj h j
   ·rename_i e;try rw[e]
    try simp only
    split at h
    ·rename_i R n;have P:=uF h j;try rw[n]at P
     try rw[n]
     try simp only
     exact P
    ·rename_i n;simp only[Eh,Ei]at h;obtain⟨⟨s,B,I⟩,b,D1,d,k⟩:=h;cases k;have:=iz b j;try rw[n]
     try simp only
     rw[this,Eg,d]
  ·rename_i t x a;split at h
   ·exact aW h
   ·rename_i J;simp only[Eh,Ei]at h;obtain⟨⟨s,B,I⟩,b,D1,d,k⟩:=h;cases k;have:=iz b j;unfold bQ;rw[a];simp only;rw[Eu J,this,Eg,d]
  ·exact aW h
  ·rename_i Z n2 n3 n4 n5 n7 K n8 n9 L M N n6;simp only[Eh,Ei]at h;obtain⟨⟨s,B,I⟩,b,D1,d,k⟩:=h;cases k;have:=iz b j;refine wT rfl Z n2 n3 n4 n5 n6 n7 n8 n9 N K L M ?_;rw[this,Eg,d]
def fh {α β:Type}(x:PM α)(f:α→List Dc→PM β):PM β :=
 match x with
 |some (a,p,φ)=>match f a p with|some (b,r,ψ)=>some (b,r,φ++ψ)|none=>none
 |none=>none
theorem cG {α β:Type}{x:PM α}{f:α→List Dc→PM β}{b:β}{r:List Dc}{χ:List Prop}(h:fh x f=some (b,r,χ))(c:b5 χ):
  ∃a p φ ψ,x=some (a,p,φ)∧b5 φ∧f a p=some (b,r,ψ)∧b5 ψ:=by
 unfold fh at h;split at h
 ·rename_i a p φ;split at h
  ·rename_i d e ψ hf;cases h;exact⟨a,p,φ,ψ,rfl,(fF c).1,hf,(fF c).2⟩
  ·cases h
 ·cases h
def eR (tab:Tab)(fns:FuncId→Option Func)(C:Sem1)(tk:Nat→Bool)(ops:Array Oper):List Oper→Nat→US→List Dc→PM US
 |[],_,D,p=>some (D,p,[])
 |o::l,i,D,p =>
  match o.guard with
  |none=>fh (sC tab fns C D o (tk i) p) (eR tab fns C tk ops l (i+1))
  |some (j,a)=>
   match((ops[j]?).bind (·.dst)).bind (yieldAt D)with
   |some b =>
    if b=some a then fh (sC tab fns C D o (tk i) p) (eR tab fns C tk ops l (i+1))
    else match o.dst with
     |none=>eR tab fns C tk ops l (i+1) D p
     |some t=>if t<D.length then eR tab fns C tk ops l (i+1) (putA D t (.tup [])) p else none
   |none=>none
theorem cw {tab:Tab}{fns:FuncId→Option Func}{C:Sem1}{tk:Nat→Bool}{ops:Array Oper}:∀(l:List Oper)(i:Nat){D D':US}{p r:List Dc}{φ:List Prop},
  eR tab fns C tk ops l i D p=some (D',r,φ)→b5 φ→runOps tab fns C tk ops l i D=some D'
 |[],i,D,D',p,r,φ,h,e=>by cases h;rfl
 |o::l,i,D,D',p,r,φ,h,e=>by
  unfold eR at h;unfold runOps;split at h
  ·rename_i f;obtain⟨D1,n,q,s,g,c,k,d⟩:=cG h e;try rw[f]
   try simp only
   rw[uD g c,Eg];exact cw l (i+1) k d
  ·rename_i j m f;try rw[f]
   try simp only
   split at h
   ·rename_i b hb;try rw[hb]
    try simp only
    split at h
    ·rename_i a;obtain⟨D1,n,q,s,g,c,k,d⟩:=cG h e;rw[Ej a,uD g c,Eg];exact cw l (i+1) k d
    ·rename_i a;split at h
     ·rename_i hd;rw[Eu a,hd];exact cw l (i+1) h e
     ·rename_i t hd;split at h
      ·rename_i u;rw[Eu a,hd];simp only;rw[Ej u,Eg];exact cw l (i+1) h e
      ·cases h
   ·cases h
def qq (tab:Tab)(fns:FuncId→Option Func)(C:Sem1)(M:US)(o:Oper)(p:List Dc):PM (Sl Unit Unit):=
 match callTo M o with
 |some (f,xs,caps)=>
  if(fns f).isSome∧tab.io.lookup f=none then(argsW mkU tab f M xs).bind fun as =>
   match p with
   | .ret rs::r=>if lF false rs=true then(jL mkU rs).map fun s=>(s,r,[C f (as++ims caps)=some rs])else none
   |_=>none
  else none
 |none =>
  match o.op with
  | .buildSlice t len a =>
   match o.dst with
   |some d=>bK p ((cr mkU frU tab M (some d) t len a.toList).bind fun U=>match U[d]? with|some (.one u)=>if u.isOwn then some (.one u)else none|_=>none)
   |none=>none
  | .makeSlice t l c =>
   match o.dst with
   |some d=>fh (sw tab M (some d) t l c p) fun U r=>match U[d]? with|some (.one u)=>if u.isOwn then some (.one u,r,[])else none|_=>none
   |none=>none
  | .alloc b=>bK p ((tab.ti b).map fun ti=>.box () (ti.zero.map (T.inj ())))
  | .extract x i=>bK p (kI M x i)
  | .move x=>match ef M x with|some rs=>some (.tup rs,p,[])|none=>jU tab M (.move x) p
  | .build b a=>bK p (gt mkU tab M b a.toList)
  |op=>jU tab M op p
theorem rD {tab:Tab}{fns:FuncId→Option Func}{C:Sem1}{M:US}{o:Oper}{p r:List Dc}{s:Sl Unit Unit}{φ:List Prop}(h:qq tab fns C M o p=some (s,r,φ))(m:b5 φ):stepV tab fns C M o=some s:=by
 unfold qq at h;unfold stepV;split at h
 ·rename_i f xs caps hc;split at h
  ·rename_i n;rw[Eh]at h;obtain⟨as,q,h⟩:=h;split at h
   ·rename_i rs G;split at h
    case isFalse=>cases h
    rename_i z;rw[Ei]at h;obtain⟨s',b,A⟩:=h;cases A;try rw[hc]
    try simp only
    rw[Ej n,q,Eg,m.1,Eg,Ej z,b]
   ·cases h
  ·cases h
 ·rename_i hc;try rw[hc]
  try simp only
  split at h
  ·rename_i y len c a;try rw[a]
   try simp only
   split at h
   ·rename_i d hd;try rw[hd]
    try simp only
    exact aW h
   ·cases h
  ·rename_i lt lo hi a;try rw[a]
   try simp only
   split at h
   ·rename_i d hd;try rw[hd]
    try simp only
    obtain⟨H,I,J,K,q,t,b,B⟩:=cG h m;rw[tP q t,Eg];split at b
    ·rename_i u D;split at b
     ·rename_i F;cases b;rw[D];simp only;rw[Ej F]
     ·cases b
    ·cases b
   ·cases h
  ·rename_i y a;try rw[a]
   try simp only
   exact aW h
  ·rename_i x i a;try rw[a]
   try simp only
   exact aW h
  ·rename_i x a;try rw[a]
   try simp only
   split at h
   ·rename_i rs v;rw[v];cases h;rfl
   ·rename_i v;rw[v];exact iz h m
  ·rename_i y c a;try rw[a]
   try simp only
   exact aW h
  ·rename_i w e g j k l;split
   ·rename_i a;exact absurd a (w _ _ _)
   ·rename_i a;exact absurd a (e _ _ _)
   ·rename_i a;exact absurd a (g _)
   ·rename_i a;exact absurd a (j _ _)
   ·rename_i a;exact absurd a (k _)
   ·rename_i a;exact absurd a (l _ _)
   ·exact iz h m
def zm (tab:Tab)(fns:FuncId→Option Func)(C:Sem1)(tk:Nat→Bool)(ops:Array Oper)(m:Nat)(anc:List (List Nat))(U:US)(j:Nat)(p:List Dc):PM (Sl Unit Unit):=
 match ops[j]? with
 |some o =>
  match o.dst with
  |some t =>
   fh (match tko tk ops j with
    |none =>
     match o.guard with
     |none=>qq tab fns C (killAll (ek tk ops m anc j) U) o p
     |some (g,a)=>
      match((ops[g]?).bind (·.dst)).bind (yieldAt (killAll (ek tk ops m anc j) U))with
      |some b=>if b=some a then qq tab fns C (killAll (ek tk ops m anc j) U) o p else some (.tup [],p,[])
      |none=>none
    |some _=>bK p (kg mkU frU tab (fun q=>(killAll (ek tk ops m anc j) U)[q]?) o)) fun s r=>if(t::dz tk ops m).all (fun v => !ce v s)=true then some (s,r,[])else none
  |none=>none
 |none=>none
theorem z9 {tab:Tab}{fns:FuncId→Option Func}{C:Sem1}{tk:Nat→Bool}{ops:Array Oper}{m:Nat}{anc:List (List Nat)}{U:US}{s:Sl Unit Unit}{j:Nat}{p r:List Dc}{φ:List Prop}(h:zm tab fns C tk ops m anc U j p=some (s,r,φ))(k:b5 φ):
  evM tab fns C tk ops m anc j U=some s:=by
 unfold zm at h;unfold evM;split at h
 case h_2=>cases h
 rename_i o l;rw[l];simp only;split at h
 case h_2=>cases h
 rename_i t hd;rw[hd];simp only;obtain⟨v,w,x,y,c,d,e,n⟩:=cG h k;split at e
 case isFalse=>cases e
 rename_i hc;cases e;split at c
 ·rename_i a;rw[a];simp only;unfold tq;split at c
  ·rename_i f;rw[f];simp only;rw[rD c d,Eg,Ej hc]
  ·rename_i g i f;rw[f];simp only;split at c
   case h_2=>cases c
   rename_i b q;rw[q];simp only;split at c
   ·rename_i hb;rw[Ej hb,rD c d,Eg,Ej hc]
   ·rename_i hb;cases c;rw[Eu hb,Eg,Ej hc]
 ·rename_i u a;rw[a];simp only;rw[aW c,Eg,Ej hc]
def uB (tab:Tab)(fns:FuncId→Option Func)(C:Sem1)(tk:Nat→Bool)(ops:Array Oper)(m:Nat)(anc:List (List Nat))(U:US)(j:Nat)(p:List Dc):PM US :=
 match(ops[j]?).bind (·.dst)with
 |some t =>
  match U[t]? with
  |some .any=>fh (zm tab fns C tk ops m anc U j p) fun s r=>some ((ik tk ops j U).set t s,r,[])
  |_=>none
 |none=>none
theorem yL {tab:Tab}{fns:FuncId→Option Func}{C:Sem1}{tk:Nat→Bool}{ops:Array Oper}{m:Nat}{anc:List (List Nat)}{U V:US}{j:Nat}{p r:List Dc}{φ:List Prop}(h:uB tab fns C tk ops m anc U j p=some (V,r,φ))(b:b5 φ):
  stepM tab fns C tk ops m anc U j=some V:=by
 unfold uB at h;unfold stepM;split at h
 case h_2=>cases h
 rename_i t hd;rw[hd];simp only;split at h
 case h_2=>cases h
 rename_i c;rw[c];simp only;obtain⟨g,i,k,l,d,a,e,f⟩:=cG h b;cases e;rw[z9 d a];rfl
def l7 (tab:Tab)(fns:FuncId→Option Func)(C:Sem1)(tk:Nat→Bool)(ops:Array Oper)(m:Nat)(anc:List (List Nat)):Nat→Nat→US→List Dc→PM US| 0,_,U,p=>some (U,p,[])|n+1,j,U,p=>fh (uB tab fns C tk ops m anc U j p) (l7 tab fns C tk ops m anc n (j+1))
theorem ko {tab:Tab}{fns:FuncId→Option Func}{C:Sem1}{tk:Nat→Bool}{ops:Array Oper}{m:Nat}{anc:List (List Nat)}:∀(n j:Nat){U V:US}{p r:List Dc}{φ:List Prop},l7 tab fns C tk ops m anc n j U p=some (V,r,φ)→b5 φ →
  gU tab fns C tk ops m anc n j U=some V
 | 0,j,U,V,p,r,φ,h,c=>by cases h;rfl
 |n+1,j,U,V,p,r,φ,h,c=>by obtain⟨f,g,i,k,d,a,e,b⟩:=cG h c;unfold gU;rw[yL d a,Eg];exact ko n (j+1) e b
def xl (tab:Tab)(fns:FuncId→Option Func)(C:Sem1)(tk:Nat→Bool)(ops:Array Oper)(m:Nat)(anc:List (List Nat))(D:US)(p:List Dc):PM US :=if sr tk ops m anc&&(bN ops m).all (fun t=>decide (t<D.length))&&(killAll (bN ops m) D).all (fun s=>(dz tk ops m).all fun u => !ce u s)then fh (l7 tab fns C tk ops m anc m 0 (killAll (bN ops m) D) p) (eR tab fns C tk ops (ops.toList.drop m) m)else none
theorem zC {tab:Tab}{fns:FuncId→Option Func}{C:Sem1}{tk:Nat→Bool}{ops:Array Oper}{m:Nat}{anc:List (List Nat)}{D V:US}{p r:List Dc}{φ:List Prop}(h:xl tab fns C tk ops m anc D p=some (V,r,φ))(c:b5 φ):
  runD tab fns C tk ops m anc D=some V:=by
 unfold xl at h;unfold runD;split at h
 ·rename_i d;obtain⟨g,i,j,k,e,a,f,b⟩:=cG h c;rw[Ej d,ko _ _ e a,Eg];exact cw _ _ f b
 ·cases h
def qi (tab:Tab)(fns:FuncId→Option Func)(C:Sem1)(tk:Nat→Bool)(late:Option (List Nat))(ops:Array Oper)(m:Nat)(anc:List (List Nat))(D:US)(p:List Dc):PM US :=
 match late with
 |none=>xl tab fns C tk ops m anc D p
 |some []=>
  if xy ops m then
   match gl tab fns C tk ops m (List.range m) D with
   |some U::l=>fh (some (U,p,[k6 l U])) (eR tab fns C tk ops (ops.toList.drop m) m)
   |_=>none
  else none
 |some σ =>
  if sB σ ops.size&&(pK tk (bL σ ops) m anc&&(bN (bL σ ops) (m+1)).all (fun t=>decide (t<D.length))&&(killAll (bN (bL σ ops) (m+1)) D).all (fun s=>(dz tk (bL σ ops) (m+1)).all fun u => !ce u s))then
   fh (l7 tab fns C tk (bL σ ops) (m+1) anc m 0 (killAll (bN (bL σ ops) (m+1)) D) p) fun a r =>
    fh (l7 tab fns C tk (bL σ ops) (m+1) anc 1 m a r) fun b c =>
     match gl tab fns C tk (bL σ ops) (ops.size-(m+1)) ((List.range ops.size).drop (m+1)) b with
     |some U::l=>some (U,c,[k6 l U,k6 (gl tab fns C tk (bL σ ops) (ops.size-m) ((List.range ops.size).drop m) a) U])
     |_=>none
  else none
theorem lf {tab:Tab}{fns:FuncId→Option Func}{C:Sem1}{tk:Nat→Bool}{late:Option (List Nat)}{ops:Array Oper}{m:Nat}{anc:List (List Nat)}{D V:US}{p r:List Dc}{φ:List Prop}(h:qi tab fns C tk late ops m anc D p=some (V,r,φ))(e:b5 φ):
  runDL tab fns C tk late ops m anc D=some V:=by
 unfold qi at h;unfold runDL;rcases late with _|(_|⟨u,σ⟩)
 ·exact zC h e
 ·simp only at h ⊢;unfold runD3;split at h
  case isFalse=>cases h
  rename_i d;rw[Ej d];split at h
  case h_2=>cases h
  rename_i U l f;rw[f];simp only;obtain⟨n,o,q,s,g,a,i,b⟩:=cG h e;cases g;rw[Ej a.1];exact cw _ _ i b
 ·simp only at h ⊢;unfold runD2;split at h
  case isFalse=>cases h
  rename_i d;rw[EF]at d;rw[Ej d];obtain⟨n,o,q,s,g,a,i,b⟩:=cG h e;rw[ko _ _ g a,Eg];obtain⟨v,w,x,y,t,j,k,c⟩:=cG i b;rw[ko _ _ t j,Eg];split at k
  case h_2=>cases k
  rename_i U l f;cases k;rw[f];simp only;rw[Ej ⟨c.1,c.2.1⟩]
def hU (tab:Tab)(fns:FuncId→Option Func)(C:Sem1)(h:ew)(n:Nat):Code→US→List Dc→PM (Exit×US)
 | .skip,D,p=>some ((.normal,D),p,[])
 | .region id ops draw,D,p =>
  match draw with
  |true =>
   match h.draw id with
   |some (m,anc)=>fh (qi tab fns C (h.take id) (h.late id) ops m anc (match h.keep id with|some l=>forget l D|none=>D) p) fun D' r=>some ((.normal,D'),r,[])
   |none=>none
  |false=>if(l5 ops.toList).isNone then fh (eR tab fns C (h.take id) ops ops.toList 0 (match h.keep id with|some l=>forget l D|none=>D) p) fun D' r=>some ((.normal,D'),r,[])else none
 | .seq x y,D,p=>fh (hU tab fns C h n x D p) fun s r=>match s.1 with| .normal=>hU tab fns C h n y s.2 r|e=>some ((e,s.2),r,[])
 | .cond c x y,D,p =>
  match boolOf mkU D c with
  |some b=>if b then hU tab fns C h n x D p else hU tab fns C h n y D p
  |none=>none
 | .block id c,D,p=>fh (hU tab fns C h n c D p) fun s r=>match s.1 with| .exit a=>some ((if a=id then .normal else .exit a,s.2),r,[])|e=>some ((e,s.2),r,[])
 | .exit id,D,p=>some ((.exit id,D),p,[])
 | .ret,D,p=>some ((.ret,D),p,[])
 | .loop c,D,p =>
  match p with
  | .lp e D'::r=>some ((e,D'),r,[∀(R:Type)(K:Exit→US→Option R),km (fun D K=>cK tab fns C h n c D fun e D'=>K e (canon h c e D')) n (atHead h c D) K=K e D'])
  |_=>none
 |_,_,_=>none
theorem jx {tab:Tab}{fns:FuncId→Option Func}{C:Sem1}{h:ew}{n:Nat}:∀(c:Code){D:US}{p:List Dc}{e:Exit}{D':US}{r:List Dc}{φ:List Prop},
  hU tab fns C h n c D p=some ((e,D'),r,φ)→b5 φ→∀{R:Type}(K:Exit→US→Option R),cK tab fns C h n c D K=K e D'
 | .skip,D,p,e,D',r,φ,hh,a,R,K=>by cases hh;rfl
 | .region id ops draw,D,p,e,D',r,φ,hh,a,R,K=>by
  simp only[hU]at hh;simp only[cK];cases draw with
  |true =>
   simp only at hh ⊢;cases j:h.draw id with
   |none=>rw[j]at hh;cases hh
   |some v =>
    obtain⟨m,anc⟩:=v;rw[j]at hh;simp only at hh ⊢;obtain⟨D1,q,s,t,f,d,g,i⟩:=cG hh a;cases g;cases k:h.keep id with
    |none =>simp only[k]at f ⊢;rw[lf f d,Eg]
    |some l =>simp only[k]at f ⊢;rw[lf f d,Eg]
  |false =>
   simp only at hh ⊢;split at hh
   case isFalse=>cases hh
   rename_i o;rw[GD]at o;rw[o];simp only;obtain⟨D1,q,s,t,f,d,g,i⟩:=cG hh a;cases g;cases k:h.keep id with
   |none =>simp only[k]at f ⊢;rw[cw _ _ f d,Eg]
   |some l =>simp only[k]at f ⊢;rw[cw _ _ f d,Eg]
 | .seq x y,D,p,e,D',r,φ,hh,a,R,K=>by
  simp only[hU]at hh;simp only[cK];obtain⟨⟨u,D1⟩,q,s,t,f,d,g,i⟩:=cG hh a;rw[jx x f d];cases u with
  |normal=>exact jx y g i K
  |_=>cases g;rfl
 | .cond c x y,D,p,e,D',r,φ,hh,a,R,K=>by
  simp only[hU]at hh;simp only[cK];split at hh
  ·rename_i b hb;try rw[hb]
   cases b
   ·exact jx y hh a K
   ·exact jx x hh a K
  ·cases hh
 | .block id c,D,p,e,D',r,φ,hh,a,R,K=>by
  simp only[hU]at hh;simp only[cK];obtain⟨⟨u,D1⟩,q,s,t,f,d,g,i⟩:=cG hh a;rw[jx c f d];cases u with
  |exit w =>cases g;simp only;split<;>rfl
  |_=>cases g;rfl
 | .exit id,D,p,e,D',r,φ,hh,a,R,K=>by cases hh;rfl
 | .ret,D,p,e,D',r,φ,hh,a,R,K=>by cases hh;rfl
 | .loop c,D,p,e,D',r,φ,hh,a,R,K=>by
  simp only[hU]at hh;simp only[cK];split at hh
  ·cases hh;exact a.1 R K
  ·cases hh
 | .rangeFunc ..,D,p,e,D',r,φ,hh,a,R,K=>by cases hh
 | .scope _,D,p,e,D',r,φ,hh,a,R,K=>by cases hh
 | .label _,D,p,e,D',r,φ,hh,a,R,K=>by cases hh
 | .goto _,D,p,e,D',r,φ,hh,a,R,K=>by cases hh
 | .refuse _,D,p,e,D',r,φ,hh,a,R,K=>by cases hh
def pj {R:Type}(D:US)(d:Nat)(c:Bool)(n:Nat)(p:List Dc)(K:US→List Dc→PM R):PM R :=
 match p with
 | .b true::r =>
  match K (putA D d (.one (.v (.bool (!c))))) r with
  |some (a,q,φ)=>
   match K (putA D d (.one (.v (.bool c)))) q with
   |some (b,e,ψ)=>some (a,e,(n=0)::(a=b)::(φ++ψ))
   |none=>none
  |none=>none
 | .b false::r =>
  match K (putA D d (.one (.v (.bool c)))) r with
  |some (a,q,φ)=>some (a,q,(n≠0)::φ)
  |none=>none
 |_=>none
theorem u4 {R:Type}{D:US}{d:Nat}{f:Bool}{n:Nat}{p q:List Dc}{K:US→List Dc→PM R}{K':US→Option R}{a:R}{φ:List Prop}(h:pj D d f n p K=some (a,q,φ))(b:b5 φ)
  (c:∀D p a q φ,K D p=some (a,q,φ)→b5 φ→K' D=some a):lW D d f n K'=some a:=by
 unfold pj at h;unfold lW;split at h
 ·split at h
  case h_2=>cases h
  rename_i g i j e;split at h
  case h_2=>cases h
  rename_i t u v k;cases h;obtain⟨l,m,o⟩:=b;obtain⟨r,s⟩:=fF o;subst m;rw[Ej l,c _ _ _ _ _ e r];simp only;rw[Ej (c _ _ _ _ _ k s)]
 ·split at h
  case h_2=>cases h
  rename_i g i j e;cases h;rw[Eu b.1,c _ _ _ _ _ e b.2]
 ·cases h
def hZ (tab:Tab)(fns:FuncId→Option Func)(C:Sem1)(h:ew)(n:Nat){R:Type}:Code→US→List Dc→(Exit→US→List Dc→PM R)→PM R
 | .skip,D,p,K=>K .normal D p
 | .region id ops draw,D,p,K =>
  match draw with
  |true =>
   match h.draw id with
   |some (m,anc)=>fh (qi tab fns C (h.take id) (h.late id) ops m anc (match h.keep id with|some l=>forget l D|none=>D) p) fun D' r=>K .normal D' r
   |none=>none
  |false =>
   match l5 ops.toList with
   |some (init,t,x,d,g)=>fh (eR tab fns C (h.take id) ops init 0 (match h.keep id with|some l=>forget l D|none=>D) p) fun D' r =>
    match kN mkU tab D' t x with
    |some n=>if d<D'.length then pj D' d g n r (K .normal)else none
    |none=>none
   |none=>fh (eR tab fns C (h.take id) ops ops.toList 0 (match h.keep id with|some l=>forget l D|none=>D) p) fun D' r=>K .normal D' r
 | .seq x y,D,p,K=>hZ tab fns C h n x D p fun e D' r=>match e with| .normal=>hZ tab fns C h n y D' r K|e=>K e D' r
 | .cond c x y,D,p,K =>
  match boolOf mkU D c with
  |some b=>if b then hZ tab fns C h n x D p K else hZ tab fns C h n y D p K
  |none=>none
 | .block id c,D,p,K=>hZ tab fns C h n c D p fun e D' r=>match e with| .exit f=>if f=id then K .normal D' r else K (.exit f) D' r|e=>K e D' r
 | .exit id,D,p,K=>K (.exit id) D p
 | .ret,D,p,K=>K .ret D p
 | .loop c,D,p,K =>
  match p with
  | .lp e D'::r =>
   match K e D' r with
   |some (a,q,φ)=>some (a,q,(∀(R:Type)(K:Exit→US→Option R),km (fun D K=>cK tab fns C h n c D fun e D'=>K e (canon h c e D')) n (atHead h c D) K=K e D')::φ)
   |none=>none
  |_=>none
 |_,_,_,_=>none
theorem jy {tab:Tab}{fns:FuncId→Option Func}{C:Sem1}{h:ew}{n:Nat}{R:Type}:∀(c:Code){K:Exit→US→List Dc→PM R}{K':Exit→US→Option R},(∀e D p a q φ,K e D p=some (a,q,φ)→b5 φ→K' e D=some a) →
  ∀{D:US}{p q:List Dc}{a:R}{φ:List Prop},hZ tab fns C h n c D p K=some (a,q,φ)→b5 φ→cK tab fns C h n c D K'=some a
 | .skip,K,K',f,D,p,q,a,φ,hh,i=>f _ _ _ _ _ _ hh i
 | .region id ops draw,K,K',f,D,p,q,a,φ,hh,i=>by
  simp only[hZ]at hh;simp only[cK];cases draw with
  |true =>
   simp only at hh ⊢;cases z:h.draw id with
   |none=>rw[z]at hh;cases hh
   |some J =>
    obtain⟨m,anc⟩:=J;rw[z]at hh;simp only at hh ⊢;obtain⟨D1,F,A,G,k,j,s,o⟩:=cG hh i;cases u:h.keep id with
    |none =>simp only[u]at k ⊢;rw[lf k j,Eg];exact f _ _ _ _ _ _ s o
    |some l =>simp only[u]at k ⊢;rw[lf k j,Eg];exact f _ _ _ _ _ _ s o
  |false =>
   simp only at hh ⊢;split at hh
   ·rename_i init t x d M B;rw[B];simp only;obtain⟨D1,F,A,G,k,j,s,o⟩:=cG hh i;split at s
    case h_2=>cases s
    rename_i n' H;split at s
    case isFalse=>cases s
    rename_i hd;have I:=u4 (K':=K' .normal) s o fun D p a q φ=>f _ _ _ _ _ _
    cases u:h.keep id with
    |none =>simp only[u]at k ⊢;rw[cw _ _ k j,Eg,H];simp only;rw[Ej hd,I]
    |some l =>simp only[u]at k ⊢;rw[cw _ _ k j,Eg,H];simp only;rw[Ej hd,I]
   ·rename_i B;rw[B];simp only;obtain⟨D1,F,A,G,k,j,s,o⟩:=cG hh i;cases u:h.keep id with
    |none =>simp only[u]at k ⊢;rw[cw _ _ k j,Eg];exact f _ _ _ _ _ _ s o
    |some l =>simp only[u]at k ⊢;rw[cw _ _ k j,Eg];exact f _ _ _ _ _ _ s o
 | .seq x y,K,K',f,D,p,q,a,φ,hh,i=>by
  simp only[hZ]at hh;simp only[cK];refine jy x (fun e D p a q φ g w=>?_) hh i;cases e with
  |normal=>exact jy y f g w
  |_=>exact f _ _ _ _ _ _ g w
 | .cond c x y,K,K',f,D,p,q,a,φ,hh,i=>by
  simp only[hZ]at hh;simp only[cK];split at hh
  ·rename_i b hb;rw[hb];cases b
   ·exact jy y f hh i
   ·exact jy x f hh i
  ·cases hh
 | .block id c,K,K',f,D,p,q,a,φ,hh,i=>by
  simp only[hZ]at hh;simp only[cK];refine jy c (fun e D p a q φ g w=>?_) hh i;cases e with
  |exit L =>
   simp only at g ⊢;split at g
   ·rename_i v;rw[Ej v];exact f _ _ _ _ _ _ g w
   ·rename_i v;rw[Eu v];exact f _ _ _ _ _ _ g w
  |_=>exact f _ _ _ _ _ _ g w
 | .exit id,K,K',f,D,p,q,a,φ,hh,i=>f _ _ _ _ _ _ hh i
 | .ret,K,K',f,D,p,q,a,φ,hh,i=>f _ _ _ _ _ _ hh i
 | .loop c,K,K',f,D,p,q,a,φ,hh,i=>by
  simp only[hZ]at hh;simp only[cK];split at hh
  case h_2=>cases hh
  split at hh
  case h_2=>cases hh
  rename_i e D' r N O A k;cases hh;rw[i.1];exact f _ _ _ _ _ _ k i.2
 | .rangeFunc ..,K,K',f,D,p,q,a,φ,hh,i=>by cases hh
 | .scope _,K,K',f,D,p,q,a,φ,hh,i=>by cases hh
 | .label _,K,K',f,D,p,q,a,φ,hh,i=>by cases hh
 | .goto _,K,K',f,D,p,q,a,φ,hh,i=>by cases hh
 | .refuse _,K,K',f,D,p,q,a,φ,hh,i=>by cases hh
def sA (tab:Tab)(fns:FuncId→Option Func)(C:Sem1)(h:ew)(k:Nat)(f:FuncId)(fn:Func)(as:List (Sl Unit Unit))(p:List Dc):Option (URes×List Prop):=
 match fn.body with
 |some c =>
  if(tab.gv.contains f ||zo ((a7 0 as).map (·.1)) c)=true then
   match hZ tab fns C h k c (as++List.replicate (fn.ntmps-as.length) .any) p fun e D q=>(zI tab (tab.gv.contains f) fn (a7 0 as) e D).map fun rs=>(rs,q,[])with
   |some (rs,_,φ)=>some (rs,φ)
   |none=>none
  else none
 |none=>none
theorem yE {tab:Tab}{fns:FuncId→Option Func}{hints:FuncId→ew}{orc:Sem1→Sem1}{k:Nat}{f:FuncId}{fn:Func}{as:List (Sl Unit Unit)}(p:List Dc){rs:URes}{φ:List Prop}
  (hf:fns f=some fn) (d:orc (kQ tab fns hints orc k) f as=none) (h:sA tab fns (kQ tab fns hints orc k) (hints f) k f fn as p=some (rs,φ)) (i:b5 φ):kQ tab fns hints orc (k+1) f as=some rs:=by
 unfold sA at h;simp only[kQ,d,hf];split at h
 ·rename_i c hc;try rw[hc]
  try simp only
  split at h
  ·rename_i b;rw[Ej b];split at h
   ·rename_i j r o l;cases h;exact jy c (fun e D p a q φ g s=>by rw[Ei]at g;obtain⟨t,m,n⟩:=g;cases n;exact m) l i
   ·cases h
  ·cases h
 ·cases h
mutual
theorem Shape.noLent {δ:Type}:∀(ty:Ty)(ts:List (T δ)),Shape ty ts→∀u∈ts,u.noLent=true
 | .bool,ts,h,u,a=>by obtain⟨b,rfl⟩:=h;simp at a;subst a;rfl
 | .int k,ts,h,u,a=>by obtain⟨b,rfl,_⟩:=h;simp at a;subst a;rfl
 | .str,ts,h,u,a=>by obtain⟨b,rfl,_⟩:=h;simp at a;subst a;rfl
 | .slice e,ts,h,u,a=>by obtain⟨d,rows,rfl,_⟩:=h;simp at a;subst a;rfl
 | .struct fs,ts,h,u,a=>ShapeF.noLent fs ts h u a
theorem ShapeF.noLent {δ:Type}:∀(fs:Fs)(ts:List (T δ)),ShapeF fs ts→∀u∈ts,u.noLent=true
 | .nil,ts,h,u,a=>by simp only[ShapeF]at h;subst h;simp at a
 | .cons t r,ts,h,u,a=>by
  obtain⟨xs,ys,rfl,b,c⟩:=h;rcases EI.1 a with q|q
  ·exact Shape.noLent t xs b u q
  ·exact ShapeF.noLent r ys c u q
end
theorem sF {w:World}{D:DSt}{u:DT}(a:u.isOwn=false∧∀b∈bl u,b<w.heap.size)(c:u.noLent=true):aS ⟨w,[],noY⟩ D u:=by
 cases u with
 |v x=>trivial
 |any=>trivial
 |s k d z r=>cases k<;>first|(cases a.1;done)|(cases c;done)|exact fun x e=>A1 (a.2 x e)
theorem AOk.agg {w:World}{ts:List DT}{cs:Array Value}(R:Reads w ts cs.toList)(b:∀u∈ts,u.noLent=true):AOk w [] noY (.agg ts) (.agg cs)∧(Sl.agg ts:DSl).isHome=false :=
 have h:(Sl.agg ts:DSl).isHome=false:=by show ts.any T.isOwn=false;rw[F4];exact fun u a=>by rw[(R.far u a).1];exact E5
 ⟨⟨fun _=>⟨cs,rfl,R.cells⟩,⟨R.holds,fun u a c=>absurd c (by rw[(R.far u a).1];exact E5),trivial⟩,fun _ u a=>sF (R.far u a) (b u a),eB (fD h)⟩,h⟩
theorem AOk.one {w:World}{t:DT}{y:Value}(R:Reads w [t] [y])(b:t.noLent=true):AOk w [] noY (.one t) y∧(Sl.one t:DSl).isHome=false :=
 have h:(Sl.one t:DSl).isHome=false:=(R.far t (by simp)).1
 ⟨⟨fun _=>R.cells.2 0 t y rfl rfl,⟨fun u a=>R.holds u (by simpa[af]using a),fun u a c=>absurd c (by rw[(R.far u (by simpa[rootsO]using a)).1];exact E5),trivial⟩,
  fun _ u a=>by
   have:u=t:=by simpa[af]using a
   subst this;exact sF (R.far u (by simp)) b,eB (fD h)⟩,h⟩
def ArgsIn (w:World)(ad:List DSl)(b:List Value):Prop:=ArgsOk w [] noY ad b∧∀a∈ad,a.isHome=false
theorem ArgsIn.nil (w:World):ArgsIn w [] []:=⟨ArgsOk.nil w [] noY,fun a h=>by cases h⟩
theorem ArgsIn.cons {w:World}{a:DSl}{y:Value}{as:List DSl}{ys:List Value}(h:AOk w [] noY a y∧a.isHome=false)(g:ArgsIn w as ys):ArgsIn w (a::as) (y::ys):=
 ⟨g.1.consN h.1 h.2,fun b hb=>by
  rcases ER.1 hb with rfl|hb
  ·exact h.2
  ·exact g.2 b hb⟩
theorem Grew.below {w w':World}(g:Grew w w'):RowKit.Below w.heap.size w w':=⟨g.os,g.tape,g.output,g.size,g.same⟩
theorem CallsOk.plain {P:Program}{B:Base}{C:Sem1}(p:CallsOk P B C){f:FuncId}{as:List (Sl Unit Unit)}{x:Value}(h:C f as=some [(false,[.v x])]){w:World}(q:B.ok w []){ad:List DSl}{m:List Value}(u:ad.map Sl.er=as)(n:ArgsIn w ad m):
  Calls P f m.toArray w fun e w'=>e = .returned x∧RowKit.Below w.heap.size w w':=by
 refine(p f as _ h w [] noY ad m q u n.1).mono ?_;rintro e w' ⟨v,od,rd,rfl,g,j,A,R⟩;have:=OutsOk.none n.2 A;subst this;rw[qC]at j;refine⟨?_,g.grew.below⟩
 match rd,j,R with
 |[(D,ts)],j,R =>
  simp only[erR,EB,E6,Gb,Gx,Gr]at j;obtain⟨rfl,i⟩:=j;rcases R.val with⟨r,l,o⟩|⟨l,_⟩|⟨d,z,row,fs,l,_⟩
  ·cases l;simp only[VPart,EE,E3]at o;obtain⟨t,rfl,hv⟩:=o;simp at i;cases t with
   |v y =>rw[c8]at i;cases i;rw[show v=_ from hv.1]
   |any=>cases i
   |s k d z r=>rw[aq]at i;cases i
  ·exact absurd rfl l
  ·simp only[Gb,Gx,Gr]at l;rw[l.2]at i;simp at i
 |[],j,R=>simp[erR]at j
 |a::b::c,j,R=>simp[erR]at j
def Ev (P:Nat→Prop):Prop:=∃N,∀k,N≤k→P k
theorem Ev.c {p:Prop}(h:p):Ev fun _=>p:=⟨0,fun _ _=>h⟩
theorem Ev.mono {P Q:Nat→Prop}(h:Ev P)(f:∀k,P k→Q k):Ev Q:=by obtain⟨N,h⟩:=h;exact⟨N,fun k a=>f k (h k a)⟩
theorem Ev.and {P Q:Nat→Prop}(h:Ev P)(g:Ev Q):Ev fun k=>P k∧Q k:=by obtain⟨N,h⟩:=h;obtain⟨M,g⟩:=g;exact⟨max N M,fun k a=>⟨h k (by omega),g k (by omega)⟩⟩
def AllE:List (Nat→Prop)→Prop|[]=>True| φ::a=>Ev φ∧AllE a
theorem AllE.ev:∀{φ:List (Nat→Prop)},AllE φ→Ev fun k=>b5 (φ.map fun ψ=>ψ k)
 |[],_=>⟨0,fun _ _=>trivial⟩
 |_::_,h=>(Ev.and h.1 (AllE.ev h.2)).mono fun _ h=>h
structure Env where
 tab:Tab
 fns:FuncId→Option Func
 hints:FuncId→ew
 orc:Sem1→Sem1
noncomputable abbrev Env.C (E:Env)(k:Nat):Sem1:=kQ E.tab E.fns E.hints E.orc k
def Does (E:Env)(f:FuncId)(as:List (Sl Unit Unit))(rs:URes):Prop:=Ev fun k=>E.C k f as=some rs
theorem DK {E:Env}{f:FuncId}{fn:Func}{as:List (Sl Unit Unit)}(p:List Dc){rs:URes}(φ:List (Nat→Prop))
  (hf:E.fns f=some fn) (a:∀C,E.orc C f as=none) (h:∀k,sA E.tab E.fns (E.C k) (E.hints f) k f fn as p=some (rs,φ.map fun ψ=>ψ k)) (b:AllE φ):Does E f as rs:=by
 obtain⟨N,c⟩:=b.ev;refine⟨N+1,fun k d=>?_⟩;obtain⟨k,rfl⟩:∃j,k=j+1:=⟨k-1,by omega⟩
 exact yE p hf (a _) (h k) (c k (by omega))
theorem Does.orc {E:Env}{f:FuncId}{as:List (Sl Unit Unit)}{rs:URes}(h:Ev fun k=>E.orc (E.C k) f as=some rs):Does E f as rs:=by
 obtain⟨N,h⟩:=h;refine⟨N+1,fun k a=>?_⟩;obtain⟨k,rfl⟩:∃j,k=j+1:=⟨k-1,by omega⟩
 show kQ E.tab E.fns E.hints E.orc (k+1) f as=some rs;simp only[kQ];rw[h k (by omega)]
theorem DS {E:Env}{f:FuncId}{as:List (Sl Unit Unit)}{rs a:URes}(h:Does E f as rs)(e:rs=a):Does E f as a:=e ▸ h
theorem AD {E:Env}{f:FuncId}{as:List (Sl Unit Unit)}{rs:URes}{φ:List (Nat→Prop)}(h:Does E f as rs)(t:AllE φ):AllE ((fun k=>E.C k f as=some rs)::φ):=⟨h,t⟩
theorem AV {ψ:Nat→Prop}{φ:List (Nat→Prop)}(h:Ev ψ)(t:AllE φ):AllE (ψ::φ):=⟨h,t⟩
theorem AC {p:Prop}{φ:List (Nat→Prop)}(h:p)(t:AllE φ):AllE ((fun _=>p)::φ):=⟨⟨0,fun _ _=>h⟩,t⟩
theorem AN:AllE []:=trivial
theorem DV {E:Env}{f:FuncId}{as:List (Sl Unit Unit)}{b a:Bool}(h:Does E f as [(false,[.v (.bool b)])])(e:b=a):Does E f as [(false,[.v (.bool a)])]:=e ▸ h
abbrev rT:Dc := .ret [(false,[.v (.bool true)])]
abbrev rF:Dc := .ret [(false,[.v (.bool false)])]
abbrev tI (n:Int):T Unit := .v (.int .i64 n)
abbrev tY (n:Int):T Unit := .v (.int .u8 n)
abbrev tB (b:Bool):T Unit := .v (.bool b)
abbrev tS (s:GM):T Unit := .v (.string s)
def jv:Code→List Code| .seq x y=>jv x++jv y| .cond _ x y=>jv x++jv y| .block _ c=>jv c| .loop c=>c::jv c|_=>[]
def aI (fn:Func)(i:Nat):Code:=(jv (fn.body.getD .skip)).getD i .skip
def Round (E:Env)(f:FuncId)(c:Code)(D:US)(e:Exit)(D':US):Prop :=Ev fun k=>∀(R:Type)(K:Exit→US→Option R),(cK E.tab E.fns (E.C k) (E.hints f) k c D fun e D'=>K e (canon (E.hints f) c e D'))=K e D'
noncomputable def t8 (E:Env)(f:FuncId)(k:Nat)(c:Code)(D:US)(p:List Dc):Option ((Exit×US)×List Prop):=
 match hU E.tab E.fns (E.C k) (E.hints f) k c D p with
 |some ((e,D1),_,φ)=>some ((e,canon (E.hints f) c e D1),φ)
 |none=>none
theorem DJ {E:Env}{f:FuncId}{c:Code}{D:US}(p:List Dc){e:Exit}{D':US}(φ:List (Nat→Prop))(h:∀k,t8 E f k c D p=some ((e,D'),φ.map fun ψ=>ψ k))(a:AllE φ):Round E f c D e D' :=
 a.ev.mono fun k b R K=>by
  have h:=h k;unfold t8 at h;split at h
  ·rename_i g D1 r i d;cases h;exact jx c d b _
  ·cases h
abbrev wu (E:Env)(f:FuncId)(c:Code)(D:US)(e:Exit)(D':US)(k m:Nat):Prop :=∀(R:Type)(K:Exit→US→Option R),km (fun D K=>cK E.tab E.fns (E.C k) (E.hints f) k c D fun e D'=>K e (canon (E.hints f) c e D')) m D K=K e D'
def Loops (E:Env)(f:FuncId)(c:Code)(D:US)(e:Exit)(D':US):Prop:=∃N,∀k,N≤k→∀m,N≤m→wu E f c D e D' k m
theorem Loops.ev {E:Env}{f:FuncId}{c:Code}{D:US}{e:Exit}{D':US}(h:Loops E f c D e D'):Ev fun k=>wu E f c D e D' k k:=by obtain⟨N,h⟩:=h;exact⟨N,fun k a=>h k a k a⟩
theorem DN {E:Env}{f:FuncId}{c:Code}{D:US}{e:Exit}{D':US}(h:Round E f c D e D')(a:e ≠ .normal:=by intro h;cases h):Loops E f c D e D':=by
 obtain⟨N,h⟩:=h;refine⟨N+1,fun k b m d R K=>?_⟩;obtain⟨m,rfl⟩:∃j,m=j+1:=⟨m-1,by omega⟩
 simp only[km];refine(h k (by omega) R _).trans ?_;cases e with
 |normal=>exact absurd rfl a
 |_=>rfl
theorem DM {E:Env}{f:FuncId}{c:Code}{D:US}{e:Exit}{D1 D':US}(h:Round E f c D .normal D1)(g:Loops E f c D1 e D'):Loops E f c D e D':=by
 obtain⟨N,h⟩:=h;obtain⟨M,g⟩:=g;refine⟨N+M+1,fun k a m b R K=>?_⟩;obtain⟨m,rfl⟩:∃j,m=j+1:=⟨m-1,by omega⟩
 simp only[km];refine(h k (by omega) R _).trans ?_;exact g k (by omega) m (by omega) R K
def Ans {α:Type}(o:Option α)(Q:α→Prop):Prop:=∀r,o=some r→Q r
theorem DL {α:Type}{r:α}{Q:α→Prop}(h:Q r):Ans (some r) Q:=fun _ e=>by cases e;exact h
theorem Ans.none {α:Type}{Q:α→Prop}:Ans (none:Option α) Q:=fun _ e=>by cases e
theorem DO {α:Type}{Q:α→Prop}{c:Bool}{a b:Option α}(t:c=true→Ans a Q)(f:c=false→Ans b Q):Ans (cond c a b) Q:=by
 cases c
 ·exact f rfl
 ·exact t rfl
theorem DQ {α β:Type}{Q:β→Prop}{x:Option α}{f:α→Option β}(h:∀y,x=Option.some y→Ans (f y) Q):Ans (x.bind f) Q:=by intro r e;rw[Eh]at e;obtain⟨y,a,b⟩:=e;exact h y a r b
theorem DR {α:Type}{Q:α→Prop}{p:Prop}[Decidable p]{a:Option α}(h:p→Ans a Q):Ans (if p then a else Option.none) Q:=by
 intro r e;split at e
 ·exact h ‹_› r e
 ·cases e
theorem Ans.mono {α:Type}{Q a:α→Prop}{o:Option α}(h:Ans o Q)(f:∀x,Q x→a x):Ans o a:=fun r e=>f r (h r e)
def stL (n:Nat)(l:List (Nat×Sl Unit Unit)):US:=l.foldl (fun D p=>D.set p.1 p.2) (List.replicate n .any)
theorem DU {E:Env}{f:FuncId}{as a:List (Sl Unit Unit)}{rs:URes}(e:as=a)(h:Does E f a rs):Does E f as rs:=e ▸ h
def etI (n:Int):List (T Unit):=[tI n]
def etY (n:Int):List (T Unit):=[tY n]
def etB (n:Bool):List (T Unit):=[tB n]
def etS (n:GM):List (T Unit):=[tS n]
def ba {α:Type}(l:List α)(n:Int):Option α:=if 0≤n then l[n.toNat]? else none
theorem rn {α:Type}{l:List α}{n:Int}{x:α}(h:ba l n=some x):0≤n∧l[n.toNat]?=some x:=by
 unfold ba at h;split at h
 ·exact⟨‹_›,h⟩
 ·cases h
theorem yg {α β:Type}{l:List α}{n:Int}{x:α}{f:α→β}(h:ba l n=some x):0≤n∧(l.map f)[n.toNat]?=some (f x):=by obtain⟨a,b⟩:=rn h;exact⟨a,by rw[Et,b];rfl⟩
theorem lY {α β:Type}{l:List α}{n:Int}{x:α}{f:α→β}(h:ba l n=some x):(l.map f)[0+n.toNat]?=some (f x):=by rw[FI];exact(yg h).2
theorem pX {α β:Type}{l:List α}{n:Int}{x:α}{f:α→β}(h:ba l n=some x):0≤n∧n<((l.map f).length:Int):=by
 obtain⟨b,a⟩:=rn h;refine⟨b,?_⟩;have:n.toNat<l.length:=by
  rcases Em n.toNat l.length with g|g
  ·exact g
  ·rw[Ek g]at a;cases a
 rw[EJ];omega
theorem gn {α β:Type}{l:List α}{n:Nat}{a:α}{f:α→β}{r:β}(h:r=f a):(l.map f).set (0+n) r=(l.set n a).map f:=by rw[h,F0,FI]
theorem qg {α β:Type}{n:Nat}{x:α}{f:α→β}{r:β}(h:r=f x):List.replicate n r=(List.replicate n x).map f:=by rw[Gs,h]
theorem AB {α β:Type}{l:List α}{f:α→β}:((l.map f).length:Int)=(l.length:Int):=by rw[EJ]
theorem AW {α:Type}{l l2:List α}{f:α→List (T Unit)}{n:Nat}(hf:∀x,(f x).all T.flat=true)(h:(l.length+l2.length)*n≤140737488355328∧l.length+l2.length≤4611686018427387904):
  (l2.map f).all (fun r=>r.all T.flat)=true∧((l.map f).length+(l2.map f).length)*n≤140737488355328∧(l.map f).length+(l2.map f).length≤4611686018427387904:=by
 refine⟨?_,by simpa using h.1,by simpa using h.2⟩;rw[Fc,Eo];exact fun x _=>hf x
theorem Ar {α β:Type}{l l2:List α}{f:α→β}:l.map f++l2.map f=(l++l2).map f:=by rw[FH]
theorem qc:∀(l:List Int),ci (l.map etY)=some l
 |[]=>rfl
 |n::l=>by show(ci (l.map etY)).map _=_;rw[qc l];rfl
theorem yM {l:List Int}:(ci (l.map etY)).map strOfNums=some (strOfNums l):=by rw[qc];rfl
def dI (s:GM):List Int:=s.data.toList.map fun b=>(b.toNat:Int)
def fp (x y:Int):Int:=if y<x then y else x
theorem Does.plain {P:Program}{E:Env}(b:aK P E.tab)(hf:dA P E.fns){B:Base}(c:∀C,CallsOk P B C→CallsOk P B (E.orc C)){f:FuncId}{as:List (Sl Unit Unit)}{x:Value}(h:Does E f as [(false,[.v x])]){w:World}(d:B.ok w []){ad:List DSl}{a:List Value}(g:ad.map Sl.er=as)(i:ArgsIn w ad a):
  Calls P f a.toArray w fun e w'=>e = .returned x∧RowKit.Below w.heap.size w w':=by
 obtain⟨N,h⟩:=h;exact CallsOk.plain (mG b hf E.hints c N) (h N (EQ _)) d g i
def wX (P:Program)(a:List Nat)(f:FuncId):Option Func:=if a.contains f=true then P.funcs[f]? else none
theorem zp {P : Program} {a : List Nat} (h : (a.all fun k => match P.funcs[k]? with | some f => !(f.name == "runtime.NumGoroutine") && !f.body.isNone | none => false) = true) : dA P (wX P a) := by
 intro f fn hf;unfold wX at hf;split at hf
 case isFalse=>cases hf
 rename_i hc;have q:=Eo.1 h f (by simpa using hc);rw[hf]at q;simp only[EF]at q;exact⟨hf,by simpa using q.1,by simpa using q.2⟩
class aA (α:Type) where
 sm:α→Prop
instance:aA Int:=⟨fun _=>True⟩
instance:aA Bool:=⟨fun _=>True⟩
instance:aA GM:=⟨fun s=>s.size≤1050000⟩
instance  {α:Type}[aA α]:aA (List α):=⟨fun l=>l.length≤1050000∧∀y∈l,aA.sm y⟩
theorem aF (n:Int)(h : -9223372036854775808≤n)(a:n≤9223372036854775807):IntKind.wrap .i64 n=n:=by simp only[IntKind.wrap,IntKind.bits,IntKind.signed];simp;omega
abbrev inc (x:Int):Int:=IntKind.wrap .i64 (x+(1:Int))
theorem dP (x:Int)(h : -9223372036854775809≤x)(a:x<9223372036854775807):inc x=x+1:=aF _ (by omega) (by omega)
theorem jp {α:Type}(l:List α)(i:Nat):ba l (i:Int)=l[i]?:=by unfold ba;rw[Ej (by omega)];simp
theorem AZ (i:Nat)(h:i<9223372036854775807):IntKind.wrap .i64 ((i:Int)+1)=((i+1:Nat):Int):=by rw[aF _ (by omega) (by omega)];omega
section
variable  {α : Type}{l : List α}{i : Nat}{x : α}{r : List α}
theorem eL (h:l.drop i=[]):decide ((i:Int)<(l.length:Int))=false:=EA (by have:=List.drop_eq_nil_iff.1 h;omega)
theorem lV (h:l.drop i=x::r):i<l.length:=by
 rcases Em i l.length with g|g
 ·exact g
 ·rw[Fq g]at h;cases h
theorem dL (h:l.drop i=x::r):decide ((i:Int)<(l.length:Int))=true:=EC (by have:=lV h;omega)
theorem eM (h:l.drop i=x::r):ba l (i:Int)=some x:=by have hi:=lV h;rw[Gc hi]at h;cases h;rw[jp,El hi]
theorem dM (h:l.drop i=x::r)(a:l.length≤9223372036854775807):inc (i:Int)=((i+1:Nat):Int):=AZ i (by have:=lV h;omega)
theorem cO (h:l.drop i=x::r):l.drop (i+1)=r:=by have hi:=lV h;rw[Gc hi]at h;cases h;rfl
end
section
variable  {α : Type}{done rest : List α}{i : Nat}{hd x : α}
end
theorem e9 (s:GM):(dI s).length=s.size:=by unfold dI;simp
theorem o7 (s:GM)(i:Nat)(h:i<s.size):(dI s)[i]?=some (fW s (i:Int)):=by unfold dI fW;rw[Et];have hs:i<s.data.size:=h;simp only[Int.toNat_natCast];have:s[i]?=some s[i]:=getElem?_pos s i h;rw[this];simp only[Array.getElem?_toList,EO hs,Ee,FX];rfl
section
variable  {s : GM}{i : Nat}{x : Int}{r : List Int}
theorem zq (h:(dI s).drop i=[]):decide ((i:Int)<(s.size:Int))=false:=by rw[←e9];exact eL h
theorem ye (h:(dI s).drop i=x::r):decide ((i:Int)<(s.size:Int))=true:=by rw[←e9];exact dL h
theorem yf (h:(dI s).drop i=x::r)(a:s.size≤9223372036854775807):inc (i:Int)=((i+1:Nat):Int):=dM h (by rw[e9];exact a)
theorem Ab (h:(dI s).drop i=x::r):0≤(i:Int)∧(i:Int)<(s.size:Int):=by have:=lV h;rw[e9]at this;omega
theorem Aa (h:(dI s).drop i=x::r):x=fW s (i:Int):=by have hi:=lV h;have a:=eM h;rw[e9]at hi;rw[jp,o7 s i hi]at a;cases a;rfl
end
class Wf (α:Type) where
 wf:α→Prop
instance:Wf Int:=⟨fun _=>True⟩
instance:Wf Bool:=⟨fun _=>True⟩
instance:Wf GM:=⟨fun s=>s.size≤9223372036854775807⟩
instance  {α:Type}[Wf α]:Wf (List α):=⟨fun l=>l.length≤9223372036854775807∧∀y∈l,Wf.wf y⟩
def Tot {α:Type}(o:Option α):Prop:=∃b,o=some b
theorem Tot.some {α:Type}(b:α):Tot (some b):=⟨b,rfl⟩
theorem Tot.cond {α:Type}{c:Bool}{a b:Option α}(h:Tot a)(g:Tot b):Tot (cond c a b):=by cases c;exact g;exact h
theorem Tot.ite {α:Type}{p:Prop}[Decidable p]{a:Option α}(b:p)(h:Tot a):Tot (if p then a else none):=by rw[Ej b];exact h
theorem Tot.bind {α β:Type}{a:Option α}{f:α→Option β}(h:Tot a)(g:∀y,a=Option.some y→Tot (f y)):Tot (a.bind f):=by obtain⟨b,rfl⟩:=h;exact g b rfl
theorem Tot.getD {α:Type}{o:Option α}(h:Tot o)(d:α):o=Option.some (o.getD d):=by obtain⟨b,rfl⟩:=h;rfl
theorem Ai {α β:Type}{l:List α}{f:α→β}{a b:Int}(h:0≤a∧a≤b∧b≤(l.length:Int)):0≤a∧a≤b∧b≤((l.map f).length:Int):=by rw[EJ];exact h
theorem zD {α β:Type}{l:List α}{f:α→β}{a b:Nat}:((l.map f).drop a).take b=((l.drop a).take b).map f:=by rw[FK,FL]
def cF (a b:Int):Int:=IntKind.wrap .i64 ((BitVec.ofInt 64 a &&& BitVec.ofInt 64 b).toNat:Int)
def dV (a b:Int):Int:=IntKind.wrap .i64 ((BitVec.ofInt 64 a ^^^ BitVec.ofInt 64 b).toNat:Int)
theorem zP {tab:Tab}{t:Nat}{k:IntKind}{a b:Int}(h:b≠0):ex tab .rem t (.int k a) (.int k b)=some (.int k (Int.tmod a b)):=by show(if k=k then(if b=0 then none else some (Value.int k (a.tmod b)))else none)=_;rw[Ej rfl,Eu h]

theorem RetOk.plain {w w':World}{X:List Nat}{Y:Nat→Prop}{x:Value}(h:x.oneCell'=true):RetOk w X Y w' [] [] [(false,[.v x])] x where
 val := .inl ⟨_,rfl,by simp only[VPart,EE,E3];exact⟨_,rfl,rfl,h⟩⟩
 kind:=fun r a t c=>by rw[EL,Er]at a;subst a;rw[Er]at c;subst c;exact KindR.fine rfl
 holds:=fun r a t c=>by rw[EL,Er]at a;subst a;rw[Er]at c;subst c;exact .v _
 own:=fun r a t c _=>by rw[EL,Er]at a;subst a;rw[Er]at c;subst c;exact .v _
 once:=fun b=>by simp[a6,ownR,T.isOwn]
 new:=fun b hb=>by simp[a6,ownR,T.isOwn]at hb
theorem RetOk.tuple {w w':World}{X:List Nat}{Y:Nat→Prop}{xs:List Value}(h:∀x∈xs,x.oneCell'=true)(g:xs.length≠1):RetOk w X Y w' [] [] (xs.map fun x=>(false,[.v x])) (.tuple xs.toArray) where
 val := .inr (.inl ⟨by simpa using g,xs.toArray,rfl,by simp,fun i r v f d=>by
  rw[Et,Ei]at f;obtain⟨x,h3,rfl⟩:=f;have e:v=x:=by simp at d;rw[h3]at d;exact(Option.some.inj d).symm
  subst e;simp only[VPart,EE,E3];exact⟨_,rfl,rfl,h v (Ef h3)⟩⟩)
 kind:=fun r a t c=>by rw[EL]at a;obtain⟨x,_,rfl⟩:=Ex.1 a;rw[Er]at c;subst c;exact KindR.fine rfl
 holds:=fun r a t c=>by rw[EL]at a;obtain⟨x,_,rfl⟩:=Ex.1 a;rw[Er]at c;subst c;exact .v _
 own:=fun r a t c _=>by rw[EL]at a;obtain⟨x,_,rfl⟩:=Ex.1 a;rw[Er]at c;subst c;exact .v _
 once:=fun b=>by
  have:a6 ([]++xs.map fun x=>(false,[(.v x:DT)]))=[]:=by unfold a6;rw[Ey];intro r a;rw[EL]at a;obtain⟨x,_,rfl⟩:=Ex.1 a;rfl
  rw[this];simp
 new:=fun b hb=>by
  have:a6 ([]++xs.map fun x=>(false,[(.v x:DT)]))=[]:=by unfold a6;rw[Ey];intro r a;rw[EL]at a;obtain⟨x,_,rfl⟩:=Ex.1 a;rfl
  rw[this]at hb;cases hb
theorem AL {E:Env}{f:FuncId}{c:Code}{D D':US}{e:Exit}{φ:List (Nat→Prop)}(h:Loops E f c D e D')(t:AllE φ):AllE ((fun k=>wu E f c D e D' k k)::φ):=⟨h.ev,t⟩
theorem Round.to {E:Env}{f:FuncId}{c:Code}{D D1 D':US}{e:Exit}(h:Round E f c D e D1)(q:D1=D'):Round E f c D e D':=q ▸ h
theorem AG {α:Type}{l:List α}{n:Int}{x:α}(f:α→List (T Unit)){φ:List (Nat→Prop)}(h:ba l n=some x)(t:AllE φ):AllE ((fun _=>0≤n∧n<((l.map f).length:Int))::(fun _=>(l.map f)[0+n.toNat]?=some (f x))::φ):=⟨Ev.c (pX h),Ev.c (lY h),t⟩
theorem AR {α:Type}{l:List α}{n:Int}{x:α}(f:α→List (T Unit)){φ:List (Nat→Prop)}(h:ba l n=some x)(t:AllE φ):AllE ((fun _=>0≤n∧(l.map f)[n.toNat]?=some (f x))::φ):=⟨Ev.c (yg h),t⟩
theorem ALn {α:Type}(l:List α)(f:α→List (T Unit)){φ:List (Nat→Prop)}(t:AllE φ):AllE ((fun _=>((l.map f).length:Int)=(l.length:Int))::φ):=⟨Ev.c AB,t⟩
theorem AAp {α:Type}{l l2:List α}{n:Nat}(f:α→List (T Unit)){φ:List (Nat→Prop)}(hf:∀x,(f x).all T.flat=true)(h:(l.length+l2.length)*n≤140737488355328∧l.length+l2.length≤4611686018427387904)(t:AllE φ):
  AllE ((fun _=>(((l2.map f).drop 0).take (l2.map f).length).all (fun r=>r.all T.flat)=true∧((l.map f).length+(((l2.map f).drop 0).take (l2.map f).length).length)*n≤140737488355328∧(l.map f).length+(((l2.map f).drop 0).take (l2.map f).length).length≤4611686018427387904)::(fun _=>(l.map f)++(((l2.map f).drop 0).take (l2.map f).length)=(l++l2).map f)::φ):=
 ⟨Ev.c (by simp only[F7,FW];exact AW hf h),Ev.c (by simp only[F7,FW];exact Ar),t⟩
theorem RP {E:Env}{f:FuncId}{c:Code}{D:US}{e:Exit}{D':US}{φ:List (Nat→Prop)}(p:List Dc)(a:AllE φ)(h:∀k,t8 E f k c D p=some ((e,D'),φ.map fun ψ=>ψ k):=by intro k;kernel_rfl):Round E f c D e D':=DJ p φ h a
theorem DP {E:Env}{f:FuncId}(fn:Func){as:List (Sl Unit Unit)}{rs:URes}{φ:List (Nat→Prop)}(p:List Dc)(a:AllE φ)(b:E.fns f=some fn:=by rfl)(c:∀C,E.orc C f as=none:=by intro C;rfl)(h:∀k,sA E.tab E.fns (E.C k) (E.hints f) k f fn as p=some (rs,φ.map fun ψ=>ψ k):=by intro k;kernel_rfl):Does E f as rs:=DK (fn:=fn) p φ b c h a
abbrev DZ (n:Int):Bool×List (T Unit):=(false,[tI n])
abbrev D5 (n:Bool):Bool×List (T Unit):=(false,[tB n])
abbrev D6 (n:GM):Bool×List (T Unit):=(false,[tS n])
abbrev D7 (n:Int):Sl Unit Unit:=.one (tI n)
abbrev D8 (n:Bool):Sl Unit Unit:=.one (tB n)
abbrev D9 (n:GM):Sl Unit Unit:=.one (tS n)
abbrev Ea (n:Int):Dc:=.val (.int .i64 n)
abbrev Eb (n:Nat):List Nat:=List.range n
abbrev Ec (n:Nat)(r:List (List (T Unit))):T Unit:=.s .own () n r
abbrev Ed (n:Nat)(r:List (List (T Unit))):T Unit:=.s .far () n r
end Go.Proofs.Ytlhgcolciklecaa.Am
