/- An abstract machine over trees: paths, loops, and what functions tell. Conditions: none. -/
import Derived.Test.YtlgddjncnedkgaaGreatDoorAmd
import Derived.Below
import Derived.Sort.Row
import Derived.KernelRfl
namespace Go.Proofs.YtlgddjncnedkgaaGreatDoor.Am
open Go
set_option linter.unusedVariables false
set_option linter.unusedSimpArgs false
variable{α β:Type}{φ:List Prop}{as:List (Sl Unit Unit)}{f:FuncId}{D D':US}{w:World}{ops:Array Oper}{rs:URes}{tk:Nat→Bool}{k:Option Bool}{P:Program}{cs:Array Value}{m t j:Nat}{ad:List DSl}{d:Dec}
inductive Dc where|b (x:Bool)|no|val (z:Value)|row (r:List (T Unit))|rows (r:List (List (T Unit)))|ret (rs:URes)|lp (e:Exit) (D:US)
variable{r p:List Dc}
abbrev PM (α:Type):=Option (α×List Dc×List Prop)
def ef:List Prop→Prop|[]=>True| φ::a=>φ∧ef a
theorem mm:∀{φ ψ:List Prop},ef (φ++ψ)→ef φ∧ef ψ
 |[],ψ,h=>⟨trivial,h⟩
 |a::φ,ψ,h=>by obtain⟨b,c⟩:=h;obtain⟨d,e⟩:=mm c;exact⟨⟨b,d⟩,e⟩
def dr (p:List Dc)(x:Option α):PM α:=x.map fun s=>(s,p,[])
def EY:T Unit→List (Nat×Nat)→List Dc→PM (T Unit)
 |u,[],p=>some (u,p,[])
 | .s _ _ _ rows,(i,c)::st,.row row::r =>
  match row[c]? with
  |some v=>match EY v st r with|some (x,q,φ)=>some (x,q,(rows[i]?=some row)::φ)|none=>none
  |none=>none
 |_,_,_=>none
theorem DR:∀(st:List (Nat×Nat)){u x:T Unit}{p q:List Dc}{φ:List Prop},EY u st p=some (x,q,φ)→ef φ→getN u st=some x
 |[],u,x,p,q,φ,h,b=>by cases u<;>(cases h;rfl)
 |(i,c)::st,u,x,p,q,φ,h,b=>by
  unfold EY at h;split at h
  ·rename_i a;cases a
  ·rename_i rows g j d row r a;cases a;split at h
   ·rename_i v hv;split at h
    ·rename_i k l m e;cases h;have f:=DR st e b.2;show((rows[i]?).bind (·[c]?)).bind (getN · st)=_;rw[b.1,Wy,hv,Wy,f]
    ·cases h
   ·cases h
  ·cases h
def K6 (tab:Tab)(D:US)(t:Nat)(x:Sl Unit Unit)(n:Int)(p:List Dc):PM (Sl Unit Unit):=
 match x with
 | .one (.s k _ z rows)=>
  match p,tab.ti t with
  | .row row::r,some ⟨_,_,_,.slice e⟩=>if k = .own then none else if((tab.ti e).map (·.size))=some z then some (.im k () row 0,r,[0≤n∧rows[n.toNat]?=some row])else none
  |_,_=>none
 | .al h c st lo len =>
  match tab.ti t,aw D h c with
  |some ⟨_,_,_,.slice e⟩,some u =>
   match EY u st p with
   |some (.s _ _ z _,r,φ)=>if((tab.ti e).map (·.size))=some z then some (.pe h c st (lo+n.toNat) 0,r,(0≤n∧n<(len:Int))::φ)else none
   |_=>none
  |_,_=>none
 |_=>none
def Mn (tab:Tab)(D:US)(t:Nat)(x:Sl Unit Unit)(lo hi:Option Int)(p:List Dc):PM (Sl Unit Unit):=
 match x with
 | .one (.v (.string s))=>
  if((tab.ti t).map (·.sh))=some .str then
   some (.one (.v (.string (s.extract (lo.getD 0).toNat (hi.getD s.size).toNat))),p,[0≤lo.getD 0∧lo.getD 0≤hi.getD s.size∧hi.getD s.size≤(s.size:Int)])
  else none
 | .one (.s k _ z rows)=>
  if k = .own then none else
  match p,tab.ti t with
  | .rows R::r,some ⟨_,_,_,.slice e⟩=>
   if((tab.ti e).map (·.size))=some z then
    some (.one (.s k.unr () z R),r,[0≤lo.getD 0∧lo.getD 0≤hi.getD rows.length∧hi.getD rows.length≤(rows.length:Int),(rows.drop (lo.getD 0).toNat).take ((hi.getD rows.length).toNat-(lo.getD 0).toNat)=R])
   else none
  |_,_=>none
 | .al h c st l len =>
  match tab.ti t with
  |some ⟨_,_,_,.slice e⟩=>
   if((tab.ti e).map (·.size))=qY D h c st then
    some (.al h c st (l+(lo.getD 0).toNat) ((hi.getD len).toNat-(lo.getD 0).toNat),p,[0≤lo.getD 0∧lo.getD 0≤hi.getD len∧hi.getD len≤(len:Int)])
   else none
  |_=>none
 |_=>none
def Qj (D:US)(ti:TI)(s:Sl Unit Unit)(p:List Dc):PM (Sl Unit Unit):=
 match s,p with
 | .pe h c st i o,.row b::d =>
  match aw D h c with
  |some u =>
   if u.isOwn then
    match EY u st (.row b::d)with
    |some (.s _ _ _ rows,.row row::r,φ)=>
     if o+ti.size≤row.length then
      if ti.sh.agg then some (.agg (((row.drop o).take ti.size).map (T.view (.lent h c false))),r,(rows[i]?=some row)::φ)else
      match(row.drop o).take ti.size with
      |[.s .own _ _ a]=>some (.al h c (st++[(i,o)]) 0 a.length,r,(rows[i]?=some row)::φ)
      |[u]=>some (.one (u.view (.lent h c false)),r,(rows[i]?=some row)::φ)
      |_=>none
     else none
    |_=>none
   else none
  |none=>none
 |_,_=>dr p (kD D ti s)
theorem b8 {x:Option α}{s:α}(h:dr p x=some (s,r,φ)):x=some s:=by unfold dr at h;rw[WD]at h;obtain⟨a,b,c⟩:=h;cases c;exact b
theorem RH {tab:Tab}{x s:Sl Unit Unit}{n:Int}(h:K6 tab D t x n p=some (s,r,φ))(c:ef φ):ju mkU D tab t x n=some s:=by
 unfold K6 at h;unfold ju;split at h
 ·split at h
  ·rename_i a;split at h
   ·cases h
   ·rename_i e;split at h
    ·rename_i hz;cases h;rw[a];simp only;rw[WM e,Wz hz,Wz c.1.1,c.1.2];rfl
    ·cases h
  ·cases h
 ·split at h
  ·rename_i a b;split at h
   ·rename_i d;split at h
    ·rename_i hz;cases h;have f:=DR _ d c.2;rw[a];simp only[qY,db,b,Wy,f];rw[Wz hz,Wz c.1]
    ·cases h
   ·cases h
  ·cases h
 ·cases h
theorem Sr {tab:Tab}{x s:Sl Unit Unit}{lo hi:Option Int}(h:Mn tab D t x lo hi p=some (s,r,φ))(b:ef φ):mB mkU D tab t x lo hi=some s:=by
 unfold Mn at h;unfold mB;split at h
 ·split at h
  ·rename_i hs;cases h;simp only;rw[Wz hs,Wz b.1]
  ·cases h
 ·split at h
  ·cases h
  ·rename_i c;split at h
   ·rename_i a;split at h
    ·rename_i hz;cases h;rw[a];simp only;rw[WM c,Wz hz,Wz b.1,b.2.1]
    ·cases h
   ·cases h
 ·split at h
  ·rename_i a;split at h
   ·rename_i hz;cases h;rw[a];simp only;rw[Wz hz,Wz b.1]
   ·cases h
  ·cases h
 ·cases h
theorem Tk {ti:TI}{x s:Sl Unit Unit}(h:Qj D ti x p=some (s,r,φ))(a:ef φ):kD D ti x=some s:=by
 unfold Qj at h;split at h
 ·rename_i k c st i o j y;split at h
  case h_2=>cases h
  rename_i u l;split at h
  case isFalse=>cases h
  rename_i m;split at h
  case h_2=>cases h
  rename_i rows row z n e;split at h
  case isFalse=>cases h
  rename_i q;have b:rows[i]?=some row→ef n→rowRange D k c st i o ti.size=some ((row.drop o).take ti.size):=by intro b t;have v:=DR st e t;simp only[rowRange,l,m,W8,v,b,Wy,Wz q]
  split at h
  ·rename_i d;cases h;simp only[kD,b a.1 a.2,Wy,Wz d]
  ·rename_i d;split at h
   ·rename_i f g;cases h;simp only[kD,b a.1 a.2,Wy,WM d,g]
   ·rename_i u' w g;cases h;simp only[kD,b a.1 a.2,Wy,WM d,g]
   ·cases h
 ·exact b8 h
def yK (D:US)(x:Operand):Option Value :=
 match opd () D x with
 |some (.one (.v z))=>some z
 |_=>none
theorem wC {x:Operand}{z:Value}(h:yK D x=some z):opd mkU.nil D x=some (.one (.v z)):=by
 unfold yK at h;split at h
 ·rename_i b a;cases h;exact a
 ·cases h
def BB (D:US)(x:Operand):Option (IntKind×Int):=
 match opd () D x with
 |some (.one (.v (.int k n)))=>some (k,n)
 |_=>none
theorem BC {x:Operand}{k:IntKind}{n:Int}(h:BB D x=some (k,n)):opd mkU.nil D x=some (.one (.v (.int k n))):=by
 unfold BB at h;split at h
 ·rename_i k' n' a;cases h;exact a
 ·cases h
def Mx (D:US)(x:Operand):Option Zz :=
 match opd () D x with
 |some (.one (.v (.string s)))=>some s
 |_=>none
theorem Sw {x:Operand}{s:Zz}(h:Mx D x=some s):opd mkU.nil D x=some (.one (.v (.string s))):=by
 unfold Mx at h;split at h
 ·rename_i s' a;cases h;exact a
 ·cases h
def sR (tab:Tab)(D:US)(op:Op)(p:List Dc):PM (Sl Unit Unit):=
 match op with
 | .binOp o t x y ty =>
  match p with
  | .val z::r=>(yK D x).bind fun a=>(yK D y).map fun b=>(.one (.v z),r,[AT tab o t a b=some z])
  | .b d::r =>
   match(yK D x).bind fun a=>(yK D y).bind fun b=>AT tab o t a b with
   |some (.bool c)=>some (.one (.v (.bool d)),r,[c=d])
   |_=>match cf mkU tab D (.binOp o t x y ty)with
    |some (.one (.v (.bool c)))=>some (.one (.v (.bool d)),r,[c=d])
    |s=>dr p s
  | .no::r=>dr r (cf mkU tab D (.binOp o t x y ty))
  |_=>dr p (cf mkU tab D (.binOp o t x y ty))
 | .call c =>
  match p with
  | .val (.int k m)::r =>
   match cf mkU tab D (.call c)with
   |some (.one (.v (.int k' n)))=>if k=k' then some (.one (.v (.int k m)),r,[n=m])else none
   |_=>none
  |_=>dr p (cf mkU tab D (.call c))
 | .indexAddr t x i=>(opd () D x).bind fun s=>(BB D i).bind fun n=>K6 tab D t s n.2 p
 | .index t x i =>
  match opd () D x,p with
  |some (.clo (.arr offs) hs),.val (.int .i64 m)::r=>(BB D i).bind fun n =>
   if 0≤m∧tab.ars.lookup t=some hs.length∧offs.length=hs.length then
    match hs[m.toNat]?,offs[m.toNat]? with
    |some h,some o=>some (.pb h o,r,[n.2=m])
    |_,_=>none
   else none
  |_,_ =>
  (Mx D x).bind fun s=>(BB D i).bind fun n =>if((tab.ti t).map (·.sh))=some .str then some (.one (.v (.int .u8 (jl s n.2))),p,[0≤n.2∧n.2<(s.size:Int)])else none
 | .slice t x lo hi none=>(opd () D x).bind fun s=>(jV () D lo).bind fun l=>(jV () D hi).bind fun h=>Mn tab D t s l h p
 | .load t x=>(opd () D x).bind fun s=>(tab.ti t).bind fun ti=>if ti.sh = .other then none else Qj D ti s p
 |op=>dr p (cf mkU tab D op)
theorem p9 {tab:Tab}{op:Op}{s:Sl Unit Unit}(h:sR tab D op p=some (s,r,φ))(g:ef φ):cf mkU tab D op=some s:=by
 unfold sR at h;split at h
 ·rename_i o t x y ty;split at h
  ·rename_i z u;simp only[WA,WD]at h;obtain⟨a,v,b,hb,h⟩:=h;cases h;simp only[cf,wC v,wC hb,g.1];rfl
  ·rename_i d u;split at h
   ·rename_i c hc;simp only[WA]at hc;obtain⟨a,v,b,hb,hc⟩:=hc;cases h;cases g.1;simp only[cf,wC v,wC hb,hc];rfl
   ·split at h
    ·rename_i c hc;cases h;cases g.1;exact hc
    ·exact b8 h
  ·exact b8 h
  ·exact b8 h
 ·rename_i c;split at h
  ·rename_i k m u;split at h
   ·rename_i k' n F;split at h
    ·rename_i G;cases h;cases G;cases g.1;exact F
    ·cases h
   ·cases h
  ·exact b8 h
 ·rename_i t x i;simp only[WA]at h;obtain⟨s',q,⟨k,n⟩,j,e⟩:=h;have f:opd mkU.nil D x=some s':=q;simp only[cf,f,BC j];exact RH e g
 ·rename_i t x i;split at h
  ·rename_i offs hs m u H;rw[WA]at h;obtain⟨⟨k,n⟩,j,e⟩:=h;split at e
   case isFalse=>cases e
   rename_i hc;split at e
   case h_2=>cases e
   rename_i L o hh I;cases e;have J:n=m:=g.1;subst J;have w:opd mkU.nil D x=some (.clo (.arr offs) hs):=H;simp only[cf,w,BC j];rw[Wz hc];simp only[hh,I]
  simp only[WA]at h;obtain⟨s',q,⟨k,n⟩,j,e⟩:=h;split at e
  ·rename_i hs;cases e;simp only[cf,Sw q,BC j];rw[Wz hs,Wz g.1]
  ·cases e
 ·rename_i t x lo hi;simp only[WA]at h;obtain⟨s',q,l,j,hh,e,K⟩:=h;have f:opd mkU.nil D x=some s':=q;have A:jV mkU.nil D lo=some l:=j;have B:jV mkU.nil D hi=some hh:=e;simp only[cf,f,A,B];exact Sr K g
 ·rename_i t x;simp only[WA]at h;obtain⟨s',q,ti,j,e⟩:=h;have f:opd mkU.nil D x=some s':=q;split at e
  ·cases e
  ·rename_i C;simp only[cf,f,j];rw[WM C];exact Tk e g
 ·exact b8 h
def zJ (D:US)(q:Sl Unit Unit)(us:List (T Unit))(p:List Dc):PM US :=
 match q,p with
 | .pe h c [] i off,.row row :: .rows R::r =>
  if us.all T.fine then
   match aw D h c with
   |some t =>
    if t.isOwn then
     match t with
     | .s _ _ _ rows =>
      if off+us.length≤row.length then
       (dL (fun n=>match n with| .s k d z _=>some (.s k d z R)|_=>none)
        (St.dead (dv h c) (qSt (((row.drop off).take us.length).all T.flat) h c) D) h c []).map fun D'=>(D',r,[rows[i]?=some row,rows.set i (au row off us)=R])
      else none
     |_=>none
    else none
   |none=>none
  else none
 | .pe h c [(i0,e)] i off,.row a :: .row row :: .rows f :: .rows R::r =>
  if us.all T.fine then
   match aw D h c with
   |some t =>
    if t.isOwn then
     match t with
     | .s _ _ _ b =>
      match a[e]? with
      |some (.s k' g j rows)=>
       if off+us.length≤row.length then
        (dL (fun n=>match n with| .s k d z _=>some (.s k d z R)|_=>none)
         (St.dead (dv h c) (qSt (((row.drop off).take us.length).all T.flat) h c) D) h c []).map fun D' =>(D',r,[b[i0]?=some a,rows[i]?=some row,rows.set i (au row off us)=f,b.set i0 (a.set e (.s k' g j f))=R])
       else none
      |_=>none
     |_=>none
    else none
   |none=>none
  else none
 | .pe h c st i off,.row row::r =>
  if us.all T.fine then
   match aw D h c with
   |some t =>
    if t.isOwn then
     match getN t st with
     |some (.s _ _ _ rows)=>
      if off+us.length≤row.length then
       (dL (fun n=>match n with| .s k d z rows=>if off+us.length≤row.length then some (.s k d z (rows.set i (au row off us)))else none|_=>none)
        (St.dead (dv h c) (qSt (((row.drop off).take us.length).all T.flat) h c) D) h c st).map fun D'=>(D',r,[rows[i]?=some row])
      else none
     |_=>none
    else none
   |none=>none
  else none
 |_,_=>dr p (jN D q us)
section
variable  {δ β : Type}
theorem pZ {p:Nat→Nat→Bool}{t:T δ}(h:t.isOwn=true):t.dead p=t:=by
 cases t with
 |v x=>rfl
 |any=>rfl
 |s k d z r=>cases k<;>simp_all[T.isOwn,T.dead]
theorem E0 (p:Nat→Nat→Bool)(q:Nat→Nat→Bool→Bool)(s:Sl δ β):bh (s.dead p q)=(bh s).map (List.map (T.dead p)):=by
 cases s with
 |al h c st lo len=>simp only[Sl.dead];split<;>rfl
 |pe h c st i off=>simp only[Sl.dead];split<;>rfl
 |im k b ts off =>
  simp only[Sl.dead];split
  ·split<;>rfl
  ·rfl
 |_=>rfl
theorem k7 (p:Nat→Nat→Bool)(q:Nat→Nat→Bool→Bool)(D:St δ β)(h c:Nat):aw (St.dead p q D) h c=(aw D h c).map (T.dead p):=by
 unfold aw St.dead;rw[WQ];cases D[h]? with
 |none=>rfl
 |some s =>
  simp only[WB,Wy,E0];cases bh s with
  |none=>rfl
  |some cs=>simp[WQ]
theorem FZ {f g:T δ→Option (T δ)}{n:T δ}(e:f n=g n):∀(st:List (Nat×Nat)){t:T δ},getN t st=some n→gN f t st=gN g t st
 |[],t,h=>by cases h;simp only[gN];exact e
 |(i,c)::st,t,h=>by
  cases t with
  |v x=>simp[getN]at h
  |any=>simp[getN]at h
  |s k d z rows =>simp only[getN,WA]at h;obtain⟨u,⟨row,hi,a⟩,b⟩:=h;simp only[gN,hi,a,Wy];rw[FZ e st b]
end
theorem Dz {q:Sl Unit Unit}{us:List (T Unit)}(h:zJ D q us p=some (D',r,φ))(m:ef φ):jN D q us=some D':=by
 unfold zJ at h;split at h
 ·rename_i u c i off row R v;split at h
  case isFalse=>cases h
  rename_i a;split at h
  case h_2=>cases h
  rename_i t e;split at h
  case isFalse=>cases h
  rename_i g;split at h
  case h_2=>cases h
  rename_i k d z rows;split at h
  case isFalse=>cases h
  rename_i j;rw[WD]at h;obtain⟨D1,n,o⟩:=h;cases o;simp only[jN,a,W8,e,g,getN,m.1,Wz j];rw[←n];unfold dL;rw[k7,e];simp only[WB,Wy,pZ g,gN,setRow,m.1];rw[Wz j,Wy, ←m.2.1]
 ·rename_i u c i0 w i off x row I R v;split at h
  case isFalse=>cases h
  rename_i a;split at h
  case h_2=>cases h
  rename_i t e;split at h
  case isFalse=>cases h
  rename_i g;split at h
  case h_2=>cases h
  rename_i k d z b;split at h
  case h_2=>cases h
  rename_i k' B C rows l;split at h
  case isFalse=>cases h
  rename_i j;rw[WD]at h;obtain⟨D1,n,o⟩:=h;cases o;obtain⟨q1,y,F,G,_⟩:=m;have s:getN (.s k d z b) [(i0,w)]=some (.s k' B C rows):=by show((b[i0]?).bind (·[w]?)).bind (getN · [])=_;rw[q1,Wy,l,Wy];rfl
  simp only[jN,a,W8,e,g,s,y,Wz j];rw[←n];unfold dL;rw[k7,e];simp only[WB,Wy,pZ g,gN,setRow,q1,l,y];rw[Wz j];simp only[WB,Wy,F,G]
 ·rename_i u c st i off row v H A;split at h
  case isFalse=>cases h
  rename_i a;split at h
  case h_2=>cases h
  rename_i t e;split at h
  case isFalse=>cases h
  rename_i g;split at h
  case h_2=>cases h
  rename_i k d z rows s;split at h
  case isFalse=>cases h
  rename_i j;rw[WD]at h;obtain⟨D1,n,o⟩:=h;cases o;simp only[jN,a,W8,e,g,s,m.1,Wz j];rw[←n];unfold dL;rw[k7,e];simp only[WB,Wy,pZ g];rw[FZ (f:=setRow i off us) ?_ st s];simp only[setRow,m.1,Wy];rw[Wz j]
 ·exact b8 h
def J1 (tab:Tab)(D:US)(dst:Option Nat)(t:Nat)(l c:Operand)(p:List Dc):PM US :=
 match p with
 | .rows R::r =>
  match tab.ti t,dst,(opd mkU.nil D l).bind intOfSl,(opd mkU.nil D c).bind intOfSl with
  |some ⟨_,_,_,.slice e⟩,some d,some n,some k =>
   match tab.ti e with
   |some a =>
    if d<D.length∧a.size≠0∧a.zero.length=a.size then
     some (bj D (some d) (.one (.s .own () a.size R)),r,[0≤n∧n≤k∧(a.bytes:Int)*k≤281474976710656∧k≤4611686018427387904,List.replicate n.toNat (a.zero.map (T.inj ()))=R])
    else none
   |none=>none
  |_,_,_,_=>none
 |_=>none
theorem Lu {tab:Tab}{dst:Option Nat}{l c:Operand}(h:J1 tab D dst t l c p=some (D',r,φ))(e:ef φ):fo mkU frU tab D dst t l c=some D':=by
 unfold J1 at h;split at h
 case h_2=>cases h
 split at h
 case h_2=>cases h
 rename_i b f hc;split at h
 case h_2=>cases h
 rename_i j d;split at h
 case isFalse=>cases h
 rename_i a;cases h;obtain⟨g,i,_⟩:=e;unfold fo;try rw[b]
 try rw[f]
 try rw[hc]
 try simp only
 try rw[d]
 try simp only
 rw[Wz a,Wz g, ←i]
def F9 (tab:Tab)(D:US)(dst:Option Nat)(t t2:Nat)(s x:Operand)(p:List Dc):PM US :=
 match p with
 | .rows R::r =>
  match tab.ti t,tab.ti t2,dst,cellsTake mkU D s with
  |some ⟨_,_,_,.slice e⟩,some ⟨_,_,_,.slice _⟩,some c,some (false,[.s .own _ z rows],D1)=>
   match tab.ti e with
   |some b =>
    match b.zero.all T.flat with
    |true =>
     match cellsCopy mkU D1 x with
     |some (false,[.s _ _ z2 a])=>
      if c<D1.length∧b.size=z∧b.size≠0∧b.zero.length=b.size∧z2=z then
       some (bj D1 (some c) (.one (.s .own () z R)),r,
        [a.all (fun r=>r.all T.flat)=true∧(rows.length+a.length)*b.bytes≤140737488355328∧rows.length+a.length≤4611686018427387904,rows++a=R])
      else none
     |_=>none
    |false =>
     match cellsTake mkU D1 x with
     |some (false,[.s .own _ z2 a],d)=>
      if c<d.length∧b.size=z∧b.size≠0∧b.zero.length=b.size∧z2=z then
       some (bj d (some c) (.one (.s .own () z R)),r,
        [(rows.length+a.length)*b.bytes≤140737488355328∧rows.length+a.length≤4611686018427387904,rows++a=R])
      else none
     |_=>none
   |none=>none
  |_,_,_,_=>none
 |_=>none
theorem Pa {tab:Tab}{dst:Option Nat}{t2:Nat}{s x:Operand}(h:F9 tab D dst t t2 s x p=some (D',r,φ))(i:ef φ):mV mkU frU tab D dst t t2 s x=some D':=by
 unfold F9 at h;split at h
 case h_2=>cases h
 split at h
 case h_2=>cases h
 rename_i d b hs;split at h
 case h_2=>cases h
 rename_i j e;unfold mV;try rw[d]
 try rw[b]
 try rw[hs]
 try simp only
 try rw[e]
 try simp only
 split at h
 ·rename_i a;split at h
  case h_2=>cases h
  rename_i f;split at h
  case isFalse=>cases h
  rename_i hc;cases h;obtain⟨c,g,_⟩:=i;rw[a];simp only[yR,f];rw[Wz c.1];simp only;rw[Wz hc,Wz c.2, ←g];try rfl
 ·rename_i a;split at h
  case h_2=>cases h
  rename_i f;split at h
  case isFalse=>cases h
  rename_i hc;cases h;obtain⟨c,g,_⟩:=i;rw[a];simp only[yR,f];rw[Wz hc,Wz c, ←g];try rfl
def Tr (D:US)(dst:Option Nat)(rows:List (List (T Unit)))(p:List Dc):PM US :=
 match p with
 | .val (.string st)::r=>(e8 D dst (.one (.v (.string st)))).map fun D'=>(D',r,[(ey rows).map strOfNums=some st])
 |_=>none
theorem Ud {dst:Option Nat}{rows:List (List (T Unit))}(h:Tr D dst rows p=some (D',r,φ))(a:ef φ):
  ((ey rows).bind fun xs=>e8 D dst (.one (.v (.string (strOfNums xs)))))=some D':=by
 unfold Tr at h;split at h
 ·rename_i st e;rw[WD]at h;obtain⟨D1,b,c⟩:=h;cases c;have:=a.1;rw[WD]at this;obtain⟨xs,d,rfl⟩:=this;rw[d,Wy,b]
 ·cases h
def Cm (tab:Tab)(D:US)(dst:Option Nat)(a t:Nat)(x:Operand)(p:List Dc):PM US :=
 match p with
 | .rows R::r =>
  match tab.ti a,tab.ti t,dst,opd mkU.nil D x with
  |some ⟨_,_,_,.str⟩,some ⟨_,_,_,.slice e⟩,some d,some (.one (.v (.string s)))=>
   match tab.ti e with
   |some ⟨1,_,_,.int .u8⟩=>if d<D.length then some (bj D (some d) (.one (.s .own () 1 R)),r,[km s=R])else none
   |_=>none
  |_,_,_,_=>none
 |_=>none
theorem Mv {tab:Tab}{dst:Option Nat}{a:Nat}{x:Operand}(h:Cm tab D dst a t x p=some (D',r,φ))(b:ef φ):iy mkU frU tab D dst a t x=some D':=by
 unfold Cm at h;split at h
 case h_2=>cases h
 split at h
 case h_2=>cases h
 rename_i hs c d;split at h
 case h_2=>cases h
 rename_i e;split at h
 case isFalse=>cases h
 rename_i hd;cases h;have f:=b.1;unfold iy;try rw[hs]
 try rw[c]
 try rw[d]
 try simp only
 try rw[e]
 try simp only
 rw[Wz hd, ←f];try rfl
def Bj (D:US)(x:Operand)(p:List Dc):PM (Sl Unit Unit×US):=
 match x with
 | .tmp t =>
  match D[t]? with
  |some (.al h c [] lo len)=>
   match aw D h c with
   |some (.s .own d z rows)=>if lo=0 then(dL (fun _=>some .any) (St.dead (dv h c) (qHC h c) D) h c []).map fun D'=>((.one (.s .own d z rows),D'),p,[len=rows.length])else none
   |_=>none
  |some (.al h c [(i,j)] lo len)=>
   match aw D h c,p with
   |some (.s .own d z rows),.row row::r =>
    match row[j]? with
    |some (.s .own b e a)=>if lo=0 then(ia (St.dead (dv h c) (qHC h c) D) h c (.s .own d z (rows.set i (row.set j .any)))).map fun D'=>((.one (.s .own b e a),D'),r,[rows[i]?=some row,len=a.length])else none
    |_=>none
   |_,_=>none
  |_=>dr p (homeTake D x)
 |_=>none
theorem KQ {x:Operand}{s:Sl Unit Unit×US}(h:Bj D x p=some (s,r,φ))(m:ef φ):homeTake D x=some s:=by
 unfold Bj at h;split at h
 ·rename_i t;split at h
  ·rename_i e c lo len f;split at h
   ·rename_i d z rows hc;split at h
    ·rename_i a;rw[WD]at h;obtain⟨D',g,k⟩:=h;cases k;have l:db D e c []=some (.s .own d z rows):=by simp only[db,hc,Wy,getN]
     simp only[homeTake,f,l];rw[Wz ⟨a,m.1⟩,g];rfl
    ·cases h
   ·cases h
  ·rename_i e c i j lo len f;split at h
   ·rename_i d z rows row v hc;split at h
    ·rename_i o q b n;split at h
     ·rename_i a;rw[WD]at h;obtain⟨D',g,k⟩:=h;cases k;obtain⟨q1,u,_⟩:=m;have l:db D e c [(i,j)]=some (.s .own o q b):=by simp only[db,hc,Wy,getN,q1,n]
      simp only[homeTake,f,l];rw[Wz ⟨a,u⟩];unfold dL;rw[k7,hc];simp only[WB,Wy,pZ (t:=T.s .own d z rows) rfl,gN,q1,n,g]
     ·cases h
    ·cases h
   ·cases h
  ·exact b8 h
 ·cases h
def Bi (D D1:US)(x:Operand)(o:Bool×List (T Unit))(p:List Dc):PM US :=
 match x with
 | .tmp t =>
  match D[t]? with
  |some (.al h c [] _ _)=>
   match aw D h c,o.2 with
   |some (.s .own d z _),[.s .own _ b a]=>if b=z then dr p (ia (St.dead (dv h c) (nU h c) D) h c (.s .own d z a))else none
   |_,_=>none
  |some (.al h c [(i,j)] _ _)=>
   match aw D h c,p,o.2 with
   |some (.s .own d z rows),.row row :: .rows R::r,[.s .own _ b a]=>
    match row[j]? with
    |some (.s .own e z2 _)=>if b=z2 then(ia (St.dead (dv h c) (nU h c) D) h c (.s .own d z R)).map fun D'=>(D',r,[rows[i]?=some row,rows.set i (row.set j (.s .own e z2 a))=R])else none
    |_=>none
   |_,_,_=>none
  |_=>dr p (homePut0 D D1 x o)
 |_=>none
theorem KP {D1:US}{x:Operand}{o:Bool×List (T Unit)}(h:Bi D D1 x o p=some (D',r,φ))(m:ef φ):homePut0 D D1 x o=some D':=by
 unfold Bi at h;split at h
 ·rename_i t;split at h
  ·rename_i e c lo len f;split at h
   ·rename_i d z rows n q a hc g;split at h
    ·rename_i hz;have h:=b8 h;have k:db D e c []=some (.s .own d z rows):=by simp only[db,hc,Wy,getN]
     simp only[homePut0,f,k,g];rw[Wz hz];unfold dL;rw[k7,hc];simp only[WB,Wy,pZ (t:=T.s .own d z rows) rfl,gN,mA,h]
    ·cases h
   ·cases h
  ·rename_i e c i j lo len f;split at h
   ·rename_i d z rows row R A n q a hc g;split at h
    ·rename_i u z2 b l;split at h
     ·rename_i hz;rw[WD]at h;obtain⟨B,v,w⟩:=h;cases w;obtain⟨q1,y,_⟩:=m;have k:db D e c [(i,j)]=some (.s .own u z2 b):=by simp only[db,hc,Wy,getN,q1,l]
      simp only[homePut0,f,k,g];rw[Wz hz];unfold dL;rw[k7,hc];simp only[WB,Wy,pZ (t:=T.s .own d z rows) rfl,gN,q1,l,mA,y,v]
     ·cases h
    ·cases h
   ·cases h
  ·exact b8 h
 ·cases h
def DU (D D1:US)(x:Operand)(o:Bool×List (T Unit))(p:List Dc):PM US:=if EZ o=true then some (D1,p,[])else Bi D D1 x o p
theorem M9 {D1:US}{x:Operand}{o:Bool×List (T Unit)}(h:DU D D1 x o p=some (D',r,φ))(b:ef φ):homePut D D1 x o=some D':=by
 unfold DU at h;unfold homePut;split at h
 ·rename_i a;cases h;rw[Wz a]
 ·rename_i a;rw[WM a];exact KP h b
def J5 (tab:Tab)(fns:FuncId→Option Func)(C:Sem1)(D:US)(o:Oper)(tk:Bool)(p:List Dc):PM US :=
 match callTo D o with
 |some (f,xs,caps)=>
  if(fns f).isSome then
   match tab.addr.lookup f with
   |some offs=>dr p (addrSl D o.dst offs xs caps)
   |none =>
   match tab.io.lookup f with
   |none=>(argsW mkU tab f D xs).bind fun as =>
    match p with
    | .ret rs::r=>(putRet mkU D o.dst rs).map fun D'=>(D',r,[C f (as++ims caps)=some rs])
    |_=>none
   |some i =>
    match caps,xs[i]? with
    |[],some x =>
     match Bj D x p with
     |some (t,d,e)=>(argsIo mkU t.2 t.1 i xs).bind fun as =>
      match d with
      | .ret (q::rs)::g =>
       match DU D t.2 x q g with
       |some (h,j,k)=>(putRet mkU h o.dst rs).map fun D'=>(D',j,e++([C f as=some (q::rs)]++k))
       |none=>none
      |_=>none
     |none=>none
    |_,_=>none
  else none
 |none =>
  match o.op with
  | .store t b x =>
   match ve tab t x with
   |some z =>
    match o.dst,tab.ti t with
    |none,some ti=>if ti.size=1 then(opd () D b).bind fun q=>zJ D q [.s .own () z []] p else none
    |_,_=>none
   |none =>
    match o.dst,tab.ti t,cellsOf mkU D x tk with
    |none,some ti,some (_,us,D1)=>if us.length=ti.size∧0<us.length then(opd () D1 b).bind fun q=>zJ D1 q us p else none
    |_,_,_=>none
  | .alloc _=>dr p (dB mkU frU tab D o tk)
  | .box _ _=>dr p (dB mkU frU tab D o tk)
  | .move _=>dr p (dB mkU frU tab D o tk)
  | .assign _=>dr p (dB mkU frU tab D o tk)
  | .extract _ _=>dr p (dB mkU frU tab D o tk)
  | .makeFunc _ _ _=>dr p (dB mkU frU tab D o tk)
  | .buildSlice _ _ _=>dr p (dB mkU frU tab D o tk)
  | .makeSlice t l c=>J1 tab D o.dst t l c p
  | .call c =>
   match xD c with
   |some (t,t2,s,x)=>F9 tab D o.dst t t2 s x p
   |none=>(sR tab D (.call c) p).bind fun s=>(e8 D o.dst s.1).map fun D'=>(D',s.2.1,s.2.2)
  | .convert a dst x =>
   match mW mkU tab D a dst x with
   |some rows=>Tr D o.dst rows p
   |none =>
    match iy mkU frU tab D o.dst a dst x with
    |some _=>Cm tab D o.dst a dst x p
    |none=>(sR tab D (.convert a dst x) p).bind fun s=>(e8 D o.dst s.1).map fun D'=>(D',s.2.1,s.2.2)
  | .load t x=>if tk then dr p (dB mkU frU tab D o tk)else(sR tab D (.load t x) p).bind fun s=>(e8 D o.dst s.1).map fun D'=>(D',s.2.1,s.2.2)
  | .build _ _=>dr p (dB mkU frU tab D o tk)
  |op=>(sR tab D op p).bind fun s=>(e8 D o.dst s.1).map fun D'=>(D',s.2.1,s.2.2)
theorem Pz {tab:Tab}{o:Oper}{tk:Bool}{op:Op}(d:o.op=op)(m:∀t p x,op ≠ .store t p x)(n:∀t,op ≠ .alloc t)(q:∀t x,op ≠ .box t x)(r:∀x,op ≠ .move x)(u:∀x,op ≠ .assign x)(v:∀t x,op ≠ .build t x)(w:∀x i,op ≠ .extract x i)(z:∀t l x,op ≠ .buildSlice t l x)(A:∀t l x,op ≠ .makeSlice t l x)(e:∀t x,op ≠ .load t x)(g:∀f x y,op ≠ .makeFunc f x y)(j:∀c,op ≠ .call c)(k:∀a b x,op ≠ .convert a b x)(h:((cf mkU tab D op).bind fun s=>e8 D o.dst s)=some D'):dB mkU frU tab D o tk=some D':=by
 unfold dB;split
 ·rename_i hh;rw[d]at hh;exact absurd hh (m _ _ _)
 ·rename_i hh;rw[d]at hh;exact absurd hh (n _)
 ·rename_i hh;rw[d]at hh;exact absurd hh (q _ _)
 ·rename_i hh;rw[d]at hh;exact absurd hh (r _)
 ·rename_i hh;rw[d]at hh;exact absurd hh (u _)
 ·rename_i hh;rw[d]at hh;exact absurd hh (e _ _)
 ·rename_i hh;rw[d]at hh;exact absurd hh (w _ _)
 ·rename_i hh;rw[d]at hh;exact absurd hh (g _ _ _)
 ·rename_i hh;rw[d]at hh;exact absurd hh (z _ _ _)
 ·rename_i hh;rw[d]at hh;exact absurd hh (A _ _ _)
 ·rename_i hh;rw[d]at hh;exact absurd hh (j _)
 ·rename_i hh;rw[d]at hh;exact absurd hh (k _ _ _)
 ·rename_i hh;rw[d]at hh;exact absurd hh (v _ _)
 ·rw[d];exact h
theorem Mu {tab:Tab}{fns:FuncId→Option Func}{C:Sem1}{o:Oper}{tk:Bool}(h:J5 tab fns C D o tk p=some (D',r,φ))(j:ef φ):stepU tab fns C D o tk=some D':=by
 unfold J5 at h;unfold stepU;split at h
 ·rename_i f xs caps hc;split at h
  ·rename_i u;split at h
   ·rename_i offs m;try rw[hc]
    try simp only
    rw[Wz u,m];exact b8 h
   rename_i m;split at h
   ·rename_i v;rw[WA]at h;obtain⟨as,b,h⟩:=h;split at h
    ·rename_i rs B;rw[WD]at h;obtain⟨D1,d,k⟩:=h;cases k;try rw[hc]
     try simp only
     rw[Wz u,m];simp only;rw[v];simp only;rw[b,Wy,j.1,Wy,d]
    ·cases h
   ·rename_i i v;split at h
    case h_2=>cases h
    rename_i x0 F;split at h
    case h_2=>cases h
    rename_i t p1 φ1 P;rw[WA]at h;obtain⟨as,b,h⟩:=h;split at h
    case h_2=>cases h
    rename_i q rs p2;split at h
    case h_2=>cases h
    rename_i Q p3 φ2 R;rw[WD]at h;obtain⟨D3,d,k⟩:=h;cases k;obtain⟨S,a2⟩:=mm j;obtain⟨a3,a4⟩:=mm a2;try rw[hc]
    try simp only
    rw[Wz u,m];simp only;rw[v];simp only;rw[F];simp only;rw[KQ P S,Wy,b,Wy,a3.1,Wy];simp only;rw[M9 R a4,Wy,d]
  ·cases h
 ·rename_i hc;try rw[hc]
  try simp only
  split at h
  ·rename_i t N x a;unfold dB;rw[a];simp only;split at h
   ·rename_i z hz;split at h
    case h_2=>cases h
    rename_i ti hd w;split at h
    case isFalse=>cases h
    rename_i y;rw[WA]at h;obtain⟨q,b,d⟩:=h;have:=Dz d j;rw[hd];simp only[hz,pV,w];rw[Wz y];have A:opd mkU.nil D N=some q:=b;rw[A,Wy];exact this
   ·rename_i hz;split at h
    case h_2=>cases h
    rename_i ti g us D1 hd w G;split at h
    case isFalse=>cases h
    rename_i y;rw[WA]at h;obtain⟨q,b,d⟩:=h;have:=Dz d j;rw[hd];simp only[hz,sg,w,G];rw[Wz y];have A:opd mkU.nil D1 N=some q:=b;rw[A,Wy,this]
  ·exact b8 h
  ·exact b8 h
  ·exact b8 h
  ·exact b8 h
  ·exact b8 h
  ·exact b8 h
  ·exact b8 h
  ·rename_i t l c a;have:=Lu h j;unfold dB;rw[a];exact this
  ·rename_i c a;unfold dB;rw[a];simp only;split at h
   ·rename_i t t2 s x e;try rw[e]
    try simp only
    exact Pa h j
   ·rename_i e;simp only[WA,WD]at h;obtain⟨⟨s,B,H⟩,b,D1,d,k⟩:=h;cases k;have:=p9 b j;try rw[e]
    try simp only
    rw[this,Wy,d]
  ·rename_i U dst x a;unfold dB;rw[a];simp only;split at h
   ·rename_i rows e;try rw[e]
    try simp only
    exact Ud h j
   ·rename_i e;try rw[e]
    try simp only
    split at h
    ·rename_i Q n;have O:=Mv h j;try rw[n]at O
     try rw[n]
     try simp only
     exact O
    ·rename_i n;simp only[WA,WD]at h;obtain⟨⟨s,B,H⟩,b,D1,d,k⟩:=h;cases k;have:=p9 b j;try rw[n]
     try simp only
     rw[this,Wy,d]
  ·rename_i t x a;split at h
   ·exact b8 h
   ·rename_i I;simp only[WA,WD]at h;obtain⟨⟨s,B,H⟩,b,D1,d,k⟩:=h;cases k;have:=p9 b j;unfold dB;rw[a];simp only;rw[WM I,this,Wy,d]
  ·exact b8 h
  ·rename_i V W X Y Z n7 J n8 n9 K L M n6;simp only[WA,WD]at h;obtain⟨⟨s,B,H⟩,b,D1,d,k⟩:=h;cases k;have:=p9 b j;refine Pz rfl V W X Y Z n6 n7 n8 n9 M J K L ?_;rw[this,Wy,d]
def lM (x:PM α)(f:α→List Dc→PM β):PM β :=
 match x with
 |some (a,p,φ)=>match f a p with|some (b,r,ψ)=>some (b,r,φ++ψ)|none=>none
 |none=>none
theorem fN {x:PM α}{f:α→List Dc→PM β}{b:β}{χ:List Prop}(h:lM x f=some (b,r,χ))(c:ef χ):
  ∃a p φ ψ,x=some (a,p,φ)∧ef φ∧f a p=some (b,r,ψ)∧ef ψ:=by
 unfold lM at h;split at h
 ·rename_i a p φ;split at h
  ·rename_i d e ψ hf;cases h;exact⟨a,p,φ,ψ,rfl,(mm c).1,hf,(mm c).2⟩
  ·cases h
 ·cases h
def lm (tab:Tab)(fns:FuncId→Option Func)(C:Sem1)(tk:Nat→Bool)(ops:Array Oper):List Oper→Nat→US→List Dc→PM US
 |[],_,D,p=>some (D,p,[])
 |o::l,i,D,p =>
  match o.guard with
  |none=>lM (J5 tab fns C D o (tk i) p) (lm tab fns C tk ops l (i+1))
  |some (j,a)=>
   match((ops[j]?).bind (·.dst)).bind (yieldAt D)with
   |some b =>
    if b=some a then lM (J5 tab fns C D o (tk i) p) (lm tab fns C tk ops l (i+1))
    else match o.dst with
     |none=>lm tab fns C tk ops l (i+1) D p
     |some t=>if t<D.length then lm tab fns C tk ops l (i+1) (putA D t (.tup [])) p else none
   |none=>none
theorem fD {tab:Tab}{fns:FuncId→Option Func}{C:Sem1}{tk:Nat→Bool}{ops:Array Oper}:∀(l:List Oper)(i:Nat){D D':US}{p r:List Dc}{φ:List Prop},
  lm tab fns C tk ops l i D p=some (D',r,φ)→ef φ→runOps tab fns C tk ops l i D=some D'
 |[],i,D,D',p,r,φ,h,e=>by cases h;rfl
 |o::l,i,D,D',p,r,φ,h,e=>by
  unfold lm at h;unfold runOps;split at h
  ·rename_i f;obtain⟨D1,n,q,s,g,c,k,d⟩:=fN h e;try rw[f]
   try simp only
   rw[Mu g c,Wy];exact fD l (i+1) k d
  ·rename_i j m f;try rw[f]
   try simp only
   split at h
   ·rename_i b hb;try rw[hb]
    try simp only
    split at h
    ·rename_i a;obtain⟨D1,n,q,s,g,c,k,d⟩:=fN h e;rw[Wz a,Mu g c,Wy];exact fD l (i+1) k d
    ·rename_i a;split at h
     ·rename_i hd;rw[WM a,hd];exact fD l (i+1) h e
     ·rename_i t hd;split at h
      ·rename_i u;rw[WM a,hd];simp only;rw[Wz u,Wy];exact fD l (i+1) h e
      ·cases h
   ·cases h
def FT (tab:Tab)(fns:FuncId→Option Func)(C:Sem1)(M:US)(o:Oper)(p:List Dc):PM (Sl Unit Unit):=
 match callTo M o with
 |some (f,xs,caps)=>
  if(fns f).isSome∧tab.io.lookup f=none then(argsW mkU tab f M xs).bind fun as =>
   match p with
   | .ret rs::r=>(sE mkU rs).map fun s=>(s,r,[C f (as++ims caps)=some rs])
   |_=>none
  else none
 |none =>
  match o.op with
  | .buildSlice t len a =>
   match o.dst with
   |some d=>dr p ((fm mkU frU tab M (some d) t len a.toList).bind fun U=>match U[d]? with|some (.one u)=>if u.isOwn then some (.one u)else none|_=>none)
   |none=>none
  | .makeSlice t l c =>
   match o.dst with
   |some d=>lM (J1 tab M (some d) t l c p) fun U r=>match U[d]? with|some (.one u)=>if u.isOwn then some (.one u,r,[])else none|_=>none
   |none=>none
  | .alloc b=>dr p ((tab.ti b).map fun ti=>.box () (ti.zero.map (T.inj ())))
  | .extract x i=>dr p (uO M x i)
  | .move x=>match ko M x with|some rs=>some (.tup rs,p,[])|none=>sR tab M (.move x) p
  | .build b a=>dr p (nA mkU tab M b a.toList)
  |op=>sR tab M op p
theorem Im {tab:Tab}{fns:FuncId→Option Func}{C:Sem1}{M:US}{o:Oper}{s:Sl Unit Unit}(h:FT tab fns C M o p=some (s,r,φ))(m:ef φ):stepV tab fns C M o=some s:=by
 unfold FT at h;unfold stepV;split at h
 ·rename_i f xs caps hc;split at h
  ·rename_i n;rw[WA]at h;obtain⟨as,q,h⟩:=h;split at h
   ·rename_i rs F;rw[WD]at h;obtain⟨s',b,z⟩:=h;cases z;try rw[hc]
    try simp only
    rw[Wz n,q,Wy,m.1,Wy,b]
   ·cases h
  ·cases h
 ·rename_i hc;try rw[hc]
  try simp only
  split at h
  ·rename_i y len c a;try rw[a]
   try simp only
   split at h
   ·rename_i d hd;try rw[hd]
    try simp only
    exact b8 h
   ·cases h
  ·rename_i lt lo hi a;try rw[a]
   try simp only
   split at h
   ·rename_i d hd;try rw[hd]
    try simp only
    obtain⟨G,H,I,J,q,t,b,A⟩:=fN h m;rw[Lu q t,Wy];split at b
    ·rename_i u B;split at b
     ·rename_i D;cases b;rw[B];simp only;rw[Wz D]
     ·cases b
    ·cases b
   ·cases h
  ·rename_i y a;try rw[a]
   try simp only
   exact b8 h
  ·rename_i x i a;try rw[a]
   try simp only
   exact b8 h
  ·rename_i x a;try rw[a]
   try simp only
   split at h
   ·rename_i rs v;rw[v];cases h;rfl
   ·rename_i v;rw[v];exact p9 h m
  ·rename_i y c a;try rw[a]
   try simp only
   exact b8 h
  ·rename_i w e g j k l;split
   ·rename_i a;exact absurd a (w _ _ _)
   ·rename_i a;exact absurd a (e _ _ _)
   ·rename_i a;exact absurd a (g _)
   ·rename_i a;exact absurd a (j _ _)
   ·rename_i a;exact absurd a (k _)
   ·rename_i a;exact absurd a (l _ _)
   ·exact p9 h m
def S7 (tab:Tab)(fns:FuncId→Option Func)(C:Sem1)(tk:Nat→Bool)(ops:Array Oper)(m:Nat)(anc:List (List Nat))(U:US)(j:Nat)(p:List Dc):PM (Sl Unit Unit):=
 match ops[j]? with
 |some o =>
  match o.dst with
  |some t =>
   lM (match tko tk ops j with
    |none =>
     match o.guard with
     |none=>FT tab fns C (killAll (kw tk ops m anc j) U) o p
     |some (g,a)=>
      match((ops[g]?).bind (·.dst)).bind (yieldAt (killAll (kw tk ops m anc j) U))with
      |some b=>if b=some a then FT tab fns C (killAll (kw tk ops m anc j) U) o p else some (.tup [],p,[])
      |none=>none
    |some _=>dr p (tM mkU frU tab (fun q=>(killAll (kw tk ops m anc j) U)[q]?) o)) fun s r=>if(t::jj tk ops m).all (fun v => !eQ v s)=true then some (s,r,[])else none
  |none=>none
 |none=>none
theorem TY {tab:Tab}{fns:FuncId→Option Func}{C:Sem1}{anc:List (List Nat)}{U:US}{s:Sl Unit Unit}(h:S7 tab fns C tk ops m anc U j p=some (s,r,φ))(k:ef φ):
  evM tab fns C tk ops m anc j U=some s:=by
 unfold S7 at h;unfold evM;split at h
 case h_2=>cases h
 rename_i o l;rw[l];simp only;split at h
 case h_2=>cases h
 rename_i t hd;rw[hd];simp only;obtain⟨v,w,x,y,c,d,e,n⟩:=fN h k;split at e
 case isFalse=>cases e
 rename_i hc;cases e;split at c
 ·rename_i a;rw[a];simp only;unfold KO;split at c
  ·rename_i f;rw[f];simp only;rw[Im c d,Wy,Wz hc]
  ·rename_i g i f;rw[f];simp only;split at c
   case h_2=>cases c
   rename_i b q;rw[q];simp only;split at c
   ·rename_i hb;rw[Wz hb,Im c d,Wy,Wz hc]
   ·rename_i hb;cases c;rw[WM hb,Wy,Wz hc]
 ·rename_i u a;rw[a];simp only;rw[b8 c,Wy,Wz hc]
def Ms (tab:Tab)(fns:FuncId→Option Func)(C:Sem1)(tk:Nat→Bool)(ops:Array Oper)(m:Nat)(anc:List (List Nat))(U:US)(j:Nat)(p:List Dc):PM US :=
 match(ops[j]?).bind (·.dst)with
 |some t =>
  match U[t]? with
  |some .any=>lM (S7 tab fns C tk ops m anc U j p) fun s r=>some ((pP tk ops j U).set t s,r,[])
  |_=>none
 |none=>none
theorem Sv {tab:Tab}{fns:FuncId→Option Func}{C:Sem1}{anc:List (List Nat)}{U V:US}(h:Ms tab fns C tk ops m anc U j p=some (V,r,φ))(b:ef φ):
  stepM tab fns C tk ops m anc U j=some V:=by
 unfold Ms at h;unfold stepM;split at h
 case h_2=>cases h
 rename_i t hd;rw[hd];simp only;split at h
 case h_2=>cases h
 rename_i c;rw[c];simp only;obtain⟨g,i,k,l,d,a,e,f⟩:=fN h b;cases e;rw[TY d a];rfl
def yv (tab:Tab)(fns:FuncId→Option Func)(C:Sem1)(tk:Nat→Bool)(ops:Array Oper)(m:Nat)(anc:List (List Nat)):Nat→Nat→US→List Dc→PM US| 0,_,U,p=>some (U,p,[])|n+1,j,U,p=>lM (Ms tab fns C tk ops m anc U j p) (yv tab fns C tk ops m anc n (j+1))
theorem um {tab:Tab}{fns:FuncId→Option Func}{C:Sem1}{tk:Nat→Bool}{ops:Array Oper}{m:Nat}{anc:List (List Nat)}:∀(n j:Nat){U V:US}{p r:List Dc}{φ:List Prop},yv tab fns C tk ops m anc n j U p=some (V,r,φ)→ef φ →
  oW tab fns C tk ops m anc n j U=some V
 | 0,j,U,V,p,r,φ,h,c=>by cases h;rfl
 |n+1,j,U,V,p,r,φ,h,c=>by obtain⟨f,g,i,k,d,a,e,b⟩:=fN h c;unfold oW;rw[Sv d a,Wy];exact um n (j+1) e b
def Qr (tab:Tab)(fns:FuncId→Option Func)(C:Sem1)(tk:Nat→Bool)(ops:Array Oper)(m:Nat)(anc:List (List Nat))(D:US)(p:List Dc):PM US :=if JX tk ops m anc&&(dw ops m).all (fun t=>decide (t<D.length))&&(killAll (dw ops m) D).all (fun s=>(jj tk ops m).all fun u => !eQ u s)then lM (yv tab fns C tk ops m anc m 0 (killAll (dw ops m) D) p) (lm tab fns C tk ops (ops.toList.drop m) m)else none
theorem Tp {tab:Tab}{fns:FuncId→Option Func}{C:Sem1}{anc:List (List Nat)}{V:US}(h:Qr tab fns C tk ops m anc D p=some (V,r,φ))(c:ef φ):
  runD tab fns C tk ops m anc D=some V:=by
 unfold Qr at h;unfold runD;split at h
 ·rename_i d;obtain⟨g,i,j,k,e,a,f,b⟩:=fN h c;rw[Wz d,um _ _ e a,Wy];exact fD _ _ f b
 ·cases h
def FJ (tab:Tab)(fns:FuncId→Option Func)(C:Sem1)(tk:Nat→Bool)(late:Option (List Nat))(ops:Array Oper)(m:Nat)(anc:List (List Nat))(D:US)(p:List Dc):PM US :=
 match late with
 |none=>Qr tab fns C tk ops m anc D p
 |some []=>
  if QN ops m then
   match nl tab fns C tk ops m (List.range m) D with
   |some U::l=>lM (some (U,p,[jY l U])) (lm tab fns C tk ops (ops.toList.drop m) m)
   |_=>none
  else none
 |some σ =>
  if J3 σ ops.size&&(EL tk (du σ ops) m anc&&(dw (du σ ops) (m+1)).all (fun t=>decide (t<D.length))&&(killAll (dw (du σ ops) (m+1)) D).all (fun s=>(jj tk (du σ ops) (m+1)).all fun u => !eQ u s))then
   lM (yv tab fns C tk (du σ ops) (m+1) anc m 0 (killAll (dw (du σ ops) (m+1)) D) p) fun a r =>
    lM (yv tab fns C tk (du σ ops) (m+1) anc 1 m a r) fun b c =>
     match nl tab fns C tk (du σ ops) (ops.size-(m+1)) ((List.range ops.size).drop (m+1)) b with
     |some U::l=>some (U,c,[jY l U,jY (nl tab fns C tk (du σ ops) (ops.size-m) ((List.range ops.size).drop m) a) U])
     |_=>none
  else none
theorem wo {tab:Tab}{fns:FuncId→Option Func}{C:Sem1}{late:Option (List Nat)}{anc:List (List Nat)}{V:US}(h:FJ tab fns C tk late ops m anc D p=some (V,r,φ))(e:ef φ):
  runDL tab fns C tk late ops m anc D=some V:=by
 unfold FJ at h;unfold runDL;rcases late with _|(_|⟨u,σ⟩)
 ·exact Tp h e
 ·simp only at h ⊢;unfold runD3;split at h
  case isFalse=>cases h
  rename_i d;rw[Wz d];split at h
  case h_2=>cases h
  rename_i U l f;rw[f];simp only;obtain⟨n,o,q,s,g,a,i,b⟩:=fN h e;cases g;rw[Wz a.1];exact fD _ _ i b
 ·simp only at h ⊢;unfold runD2;split at h
  case isFalse=>cases h
  rename_i d;rw[W0]at d;rw[Wz d];obtain⟨n,o,q,s,g,a,i,b⟩:=fN h e;rw[um _ _ g a,Wy];obtain⟨v,w,x,y,t,j,k,c⟩:=fN i b;rw[um _ _ t j,Wy];split at k
  case h_2=>cases k
  rename_i U l f;cases k;rw[f];simp only;rw[Wz ⟨c.1,c.2.1⟩]
def pj (tab:Tab)(fns:FuncId→Option Func)(C:Sem1)(h:kK)(n:Nat):Code→US→List Dc→PM (Exit×US)
 | .skip,D,p=>some ((.normal,D),p,[])
 | .region id ops draw,D,p =>
  match draw with
  |true =>
   match h.draw id with
   |some (m,anc)=>lM (FJ tab fns C (h.take id) (h.late id) ops m anc (match h.keep id with|some l=>forget l D|none=>D) p) fun D' r=>some ((.normal,D'),r,[])
   |none=>none
  |false=>if(ym ops.toList).isNone then lM (lm tab fns C (h.take id) ops ops.toList 0 (match h.keep id with|some l=>forget l D|none=>D) p) fun D' r=>some ((.normal,D'),r,[])else none
 | .seq x y,D,p=>lM (pj tab fns C h n x D p) fun s r=>match s.1 with| .normal=>pj tab fns C h n y s.2 r|e=>some ((e,s.2),r,[])
 | .cond c x y,D,p =>
  match boolOf mkU D c with
  |some b=>if b then pj tab fns C h n x D p else pj tab fns C h n y D p
  |none=>none
 | .block id c,D,p=>lM (pj tab fns C h n c D p) fun s r=>match s.1 with| .exit a=>some ((if a=id then .normal else .exit a,s.2),r,[])|e=>some ((e,s.2),r,[])
 | .exit id,D,p=>some ((.exit id,D),p,[])
 | .ret,D,p=>some ((.ret,D),p,[])
 | .loop c,D,p =>
  match p with
  | .lp e D'::r=>some ((e,D'),r,[∀(R:Type)(K:Exit→US→Option R),ui (fun D K=>gd tab fns C h n c D fun e D'=>K e (canon h c e D')) n (atHead h c D) K=K e D'])
  |_=>none
 |_,_,_=>none
theorem rW {tab:Tab}{fns:FuncId→Option Func}{C:Sem1}{h:kK}{n:Nat}:∀(c:Code){D:US}{p:List Dc}{e:Exit}{D':US}{r:List Dc}{φ:List Prop},
  pj tab fns C h n c D p=some ((e,D'),r,φ)→ef φ→∀{R:Type}(K:Exit→US→Option R),gd tab fns C h n c D K=K e D'
 | .skip,D,p,e,D',r,φ,hh,a,R,K=>by cases hh;rfl
 | .region id ops draw,D,p,e,D',r,φ,hh,a,R,K=>by
  simp only[pj]at hh;simp only[gd];cases draw with
  |true =>
   simp only at hh ⊢;cases j:h.draw id with
   |none=>rw[j]at hh;cases hh
   |some v =>
    obtain⟨m,anc⟩:=v;rw[j]at hh;simp only at hh ⊢;obtain⟨D1,q,s,t,f,d,g,i⟩:=fN hh a;cases g;cases k:h.keep id with
    |none =>simp only[k]at f ⊢;rw[wo f d,Wy]
    |some l =>simp only[k]at f ⊢;rw[wo f d,Wy]
  |false =>
   simp only at hh ⊢;split at hh
   case isFalse=>cases hh
   rename_i o;rw[Zr]at o;rw[o];simp only;obtain⟨D1,q,s,t,f,d,g,i⟩:=fN hh a;cases g;cases k:h.keep id with
   |none =>simp only[k]at f ⊢;rw[fD _ _ f d,Wy]
   |some l =>simp only[k]at f ⊢;rw[fD _ _ f d,Wy]
 | .seq x y,D,p,e,D',r,φ,hh,a,R,K=>by
  simp only[pj]at hh;simp only[gd];obtain⟨⟨u,D1⟩,q,s,t,f,d,g,i⟩:=fN hh a;rw[rW x f d];cases u with
  |normal=>exact rW y g i K
  |_=>cases g;rfl
 | .cond c x y,D,p,e,D',r,φ,hh,a,R,K=>by
  simp only[pj]at hh;simp only[gd];split at hh
  ·rename_i b hb;try rw[hb]
   cases b
   ·exact rW y hh a K
   ·exact rW x hh a K
  ·cases hh
 | .block id c,D,p,e,D',r,φ,hh,a,R,K=>by
  simp only[pj]at hh;simp only[gd];obtain⟨⟨u,D1⟩,q,s,t,f,d,g,i⟩:=fN hh a;rw[rW c f d];cases u with
  |exit w =>cases g;simp only;split<;>rfl
  |_=>cases g;rfl
 | .exit id,D,p,e,D',r,φ,hh,a,R,K=>by cases hh;rfl
 | .ret,D,p,e,D',r,φ,hh,a,R,K=>by cases hh;rfl
 | .loop c,D,p,e,D',r,φ,hh,a,R,K=>by
  simp only[pj]at hh;simp only[gd];split at hh
  ·cases hh;exact a.1 R K
  ·cases hh
 | .rangeFunc ..,D,p,e,D',r,φ,hh,a,R,K=>by cases hh
 | .scope _,D,p,e,D',r,φ,hh,a,R,K=>by cases hh
 | .label _,D,p,e,D',r,φ,hh,a,R,K=>by cases hh
 | .goto _,D,p,e,D',r,φ,hh,a,R,K=>by cases hh
 | .refuse _,D,p,e,D',r,φ,hh,a,R,K=>by cases hh
def DQ {R:Type}(D:US)(d:Nat)(c:Bool)(n:Nat)(p:List Dc)(K:US→List Dc→PM R):PM R :=
 match p with
 | .b true::r =>
  match K (putA D d (.one (.v (.bool (!c))))) r with
  |some (a,q,φ)=>
   match K (putA D d (.one (.v (.bool c)))) q with
   |some (b,e,ψ)=>some (a,e,(n=0)::(a=b)::(φ++ψ))
   |none=>none
  |none=>none
 | .b false::r =>
  match K (putA D d (.one (.v (.bool c)))) r with
  |some (a,q,φ)=>some (a,q,(n≠0)::φ)
  |none=>none
 |_=>none
theorem M7 {R:Type}{d:Nat}{f:Bool}{n:Nat}{q:List Dc}{K:US→List Dc→PM R}{K':US→Option R}{a:R}(h:DQ D d f n p K=some (a,q,φ))(b:ef φ)(c:∀D p a q φ,K D p=some (a,q,φ)→ef φ→K' D=some a):xR D d f n K'=some a:=by
 unfold DQ at h;unfold xR;split at h
 ·split at h
  case h_2=>cases h
  rename_i g q1 i e;split at h
  case h_2=>cases h
  rename_i s t u j;cases h;obtain⟨k,l,m⟩:=b;obtain⟨o,r⟩:=mm m;subst l;rw[Wz k,c _ _ _ _ _ e o];simp only;rw[Wz (c _ _ _ _ _ j r)]
 ·split at h
  case h_2=>cases h
  rename_i g q1 i e;cases h;rw[WM b.1,c _ _ _ _ _ e b.2]
 ·cases h
def pk (tab:Tab)(fns:FuncId→Option Func)(C:Sem1)(h:kK)(n:Nat){R:Type}:Code→US→List Dc→(Exit→US→List Dc→PM R)→PM R
 | .skip,D,p,K=>K .normal D p
 | .region id ops draw,D,p,K =>
  match draw with
  |true =>
   match h.draw id with
   |some (m,anc)=>lM (FJ tab fns C (h.take id) (h.late id) ops m anc (match h.keep id with|some l=>forget l D|none=>D) p) fun D' r=>K .normal D' r
   |none=>none
  |false =>
   match ym ops.toList with
   |some (init,t,x,d,g)=>lM (lm tab fns C (h.take id) ops init 0 (match h.keep id with|some l=>forget l D|none=>D) p) fun D' r =>
    match vd mkU tab D' t x with
    |some n=>if d<D'.length then DQ D' d g n r (K .normal)else none
    |none=>none
   |none=>lM (lm tab fns C (h.take id) ops ops.toList 0 (match h.keep id with|some l=>forget l D|none=>D) p) fun D' r=>K .normal D' r
 | .seq x y,D,p,K=>pk tab fns C h n x D p fun e D' r=>match e with| .normal=>pk tab fns C h n y D' r K|e=>K e D' r
 | .cond c x y,D,p,K =>
  match boolOf mkU D c with
  |some b=>if b then pk tab fns C h n x D p K else pk tab fns C h n y D p K
  |none=>none
 | .block id c,D,p,K=>pk tab fns C h n c D p fun e D' r=>match e with| .exit f=>if f=id then K .normal D' r else K (.exit f) D' r|e=>K e D' r
 | .exit id,D,p,K=>K (.exit id) D p
 | .ret,D,p,K=>K .ret D p
 | .loop c,D,p,K =>
  match p with
  | .lp e D'::r =>
   match K e D' r with
   |some (a,q,φ)=>some (a,q,(∀(R:Type)(K:Exit→US→Option R),ui (fun D K=>gd tab fns C h n c D fun e D'=>K e (canon h c e D')) n (atHead h c D) K=K e D')::φ)
   |none=>none
  |_=>none
 |_,_,_,_=>none
theorem rX {tab:Tab}{fns:FuncId→Option Func}{C:Sem1}{h:kK}{n:Nat}{R:Type}:∀(c:Code){K:Exit→US→List Dc→PM R}{K':Exit→US→Option R},(∀e D p a q φ,K e D p=some (a,q,φ)→ef φ→K' e D=some a) →
  ∀{D:US}{p q:List Dc}{a:R}{φ:List Prop},pk tab fns C h n c D p K=some (a,q,φ)→ef φ→gd tab fns C h n c D K'=some a
 | .skip,K,K',f,D,p,q,a,φ,hh,i=>f _ _ _ _ _ _ hh i
 | .region id ops draw,K,K',f,D,p,q,a,φ,hh,i=>by
  simp only[pk]at hh;simp only[gd];cases draw with
  |true =>
   simp only at hh ⊢;cases w:h.draw id with
   |none=>rw[w]at hh;cases hh
   |some I =>
    obtain⟨m,anc⟩:=I;rw[w]at hh;simp only at hh ⊢;obtain⟨D1,B,z,F,k,j,s,o⟩:=fN hh i;cases u:h.keep id with
    |none =>simp only[u]at k ⊢;rw[wo k j,Wy];exact f _ _ _ _ _ _ s o
    |some l =>simp only[u]at k ⊢;rw[wo k j,Wy];exact f _ _ _ _ _ _ s o
  |false =>
   simp only at hh ⊢;split at hh
   ·rename_i init t x d L A;rw[A];simp only;obtain⟨D1,B,z,F,k,j,s,o⟩:=fN hh i;split at s
    case h_2=>cases s
    rename_i n' G;split at s
    case isFalse=>cases s
    rename_i hd;have H:=M7 (K':=K' .normal) s o fun D p a q φ=>f _ _ _ _ _ _
    cases u:h.keep id with
    |none =>simp only[u]at k ⊢;rw[fD _ _ k j,Wy,G];simp only;rw[Wz hd,H]
    |some l =>simp only[u]at k ⊢;rw[fD _ _ k j,Wy,G];simp only;rw[Wz hd,H]
   ·rename_i A;rw[A];simp only;obtain⟨D1,B,z,F,k,j,s,o⟩:=fN hh i;cases u:h.keep id with
    |none =>simp only[u]at k ⊢;rw[fD _ _ k j,Wy];exact f _ _ _ _ _ _ s o
    |some l =>simp only[u]at k ⊢;rw[fD _ _ k j,Wy];exact f _ _ _ _ _ _ s o
 | .seq x y,K,K',f,D,p,q,a,φ,hh,i=>by
  simp only[pk]at hh;simp only[gd];refine rX x (fun e D p a q φ g v=>?_) hh i;cases e with
  |normal=>exact rX y f g v
  |_=>exact f _ _ _ _ _ _ g v
 | .cond c x y,K,K',f,D,p,q,a,φ,hh,i=>by
  simp only[pk]at hh;simp only[gd];split at hh
  ·rename_i b hb;rw[hb];cases b
   ·exact rX y f hh i
   ·exact rX x f hh i
  ·cases hh
 | .block id c,K,K',f,D,p,q,a,φ,hh,i=>by
  simp only[pk]at hh;simp only[gd];refine rX c (fun e D p a q φ g v=>?_) hh i;cases e with
  |exit J =>
   simp only at g ⊢;split at g
   ·rename_i hid;rw[Wz hid];exact f _ _ _ _ _ _ g v
   ·rename_i hid;rw[WM hid];exact f _ _ _ _ _ _ g v
  |_=>exact f _ _ _ _ _ _ g v
 | .exit id,K,K',f,D,p,q,a,φ,hh,i=>f _ _ _ _ _ _ hh i
 | .ret,K,K',f,D,p,q,a,φ,hh,i=>f _ _ _ _ _ _ hh i
 | .loop c,K,K',f,D,p,q,a,φ,hh,i=>by
  simp only[pk]at hh;simp only[gd];split at hh
  case h_2=>cases hh
  split at hh
  case h_2=>cases hh
  rename_i e D' r M q1 z k;cases hh;rw[i.1];exact f _ _ _ _ _ _ k i.2
 | .rangeFunc ..,K,K',f,D,p,q,a,φ,hh,i=>by cases hh
 | .scope _,K,K',f,D,p,q,a,φ,hh,i=>by cases hh
 | .label _,K,K',f,D,p,q,a,φ,hh,i=>by cases hh
 | .goto _,K,K',f,D,p,q,a,φ,hh,i=>by cases hh
 | .refuse _,K,K',f,D,p,q,a,φ,hh,i=>by cases hh
def J2 (tab:Tab)(fns:FuncId→Option Func)(C:Sem1)(h:kK)(k:Nat)(f:FuncId)(fn:Func)(as:List (Sl Unit Unit))(p:List Dc):Option (URes×List Prop):=
 match fn.body with
 |some c =>
  if(tab.gv.contains f ||Ta ((ce 0 as).map (·.1)) c)=true then
   match pk tab fns C h k c (as++List.replicate (fn.ntmps-as.length) .any) p fun e D q=>(TA tab (tab.gv.contains f) fn (ce 0 as) e D).map fun rs=>(rs,q,[])with
   |some (rs,_,φ)=>some (rs,φ)
   |none=>none
  else none
 |none=>none
theorem Sf {tab:Tab}{fns:FuncId→Option Func}{hints:FuncId→kK}{orc:Sem1→Sem1}{k:Nat}{fn:Func}(p:List Dc)(hf:fns f=some fn)(d:orc (vg tab fns hints orc k) f as=none)(h:J2 tab fns (vg tab fns hints orc k) (hints f) k f fn as p=some (rs,φ))(i:ef φ):vg tab fns hints orc (k+1) f as=some rs:=by
 unfold J2 at h;simp only[vg,d,hf];split at h
 ·rename_i c hc;try rw[hc]
  try simp only
  split at h
  ·rename_i b;rw[Wz b];split at h
   ·rename_i rs' r n j;cases h;exact rX c (fun e D p a q φ g o=>by rw[WD]at g;obtain⟨s,l,m⟩:=g;cases m;exact l) j i
   ·cases h
  ·cases h
 ·cases h
mutual
theorem Shape.noLent {δ:Type}:∀(ty:Ty)(ts:List (T δ)),Shape ty ts→∀u∈ts,u.noLent=true
 | .bool,ts,h,u,a=>by obtain⟨b,rfl⟩:=h;simp at a;subst a;rfl
 | .int k,ts,h,u,a=>by obtain⟨b,rfl,_⟩:=h;simp at a;subst a;rfl
 | .str,ts,h,u,a=>by obtain⟨b,rfl,_⟩:=h;simp at a;subst a;rfl
 | .slice e,ts,h,u,a=>by obtain⟨d,rows,rfl,_⟩:=h;simp at a;subst a;rfl
 | .struct fs,ts,h,u,a=>ShapeF.noLent fs ts h u a
theorem ShapeF.noLent {δ:Type}:∀(fs:Fs)(ts:List (T δ)),ShapeF fs ts→∀u∈ts,u.noLent=true
 | .nil,ts,h,u,a=>by simp only[ShapeF]at h;subst h;simp at a
 | .cons t r,ts,h,u,a=>by
  obtain⟨xs,ys,rfl,b,c⟩:=h;rcases W5.1 a with q|q
  ·exact Shape.noLent t xs b u q
  ·exact ShapeF.noLent r ys c u q
end
theorem J8 {D:DSt}{u:DT}(a:u.isOwn=false∧∀b∈bl u,b<w.heap.size)(c:u.noLent=true):bQ ⟨w,[]⟩ D u:=by
 cases u with
 |v x=>trivial
 |any=>trivial
 |s k d z r=>cases k<;>first|(cases a.1;done)|(cases c;done)|exact fun x e=>UY (a.2 x e)
theorem AOk.agg {ts:List DT}(R:Reads w ts cs.toList)(b:∀u∈ts,u.noLent=true):AOk w [] (.agg ts) (.agg cs)∧(Sl.agg ts:DSl).isHome=false :=
 have h:(Sl.agg ts:DSl).isHome=false:=by show ts.any T.isOwn=false;rw[YI];exact fun u a=>by rw[(R.far u a).1];exact XP
 ⟨⟨fun _=>⟨cs,rfl,R.cells⟩,⟨R.holds,fun u a c=>absurd c (by rw[(R.far u a).1];exact XP),trivial⟩,fun _ u a=>J8 (R.far u a) (b u a),kP (mi h)⟩,h⟩
theorem AOk.one {t:DT}{y:Value}(R:Reads w [t] [y])(b:t.noLent=true):AOk w [] (.one t) y∧(Sl.one t:DSl).isHome=false :=
 have h:(Sl.one t:DSl).isHome=false:=(R.far t (by simp)).1
 ⟨⟨fun _=>R.cells.2 0 t y rfl rfl,⟨fun u a=>R.holds u (by simpa[an]using a),fun u a c=>absurd c (by rw[(R.far u (by simpa[rootsO]using a)).1];exact XP),trivial⟩,
  fun _ u a=>by
   have:u=t:=by simpa[an]using a
   subst this;exact J8 (R.far u (by simp)) b,kP (mi h)⟩,h⟩
def ArgsIn (w:World)(ad:List DSl)(b:List Value):Prop:=ArgsOk w [] ad b∧∀a∈ad,a.isHome=false
theorem ArgsIn.nil (w:World):ArgsIn w [] []:=⟨ArgsOk.nil w [],fun a h=>by cases h⟩
theorem ArgsIn.cons {a:DSl}{y:Value}{as:List DSl}{ys:List Value}(h:AOk w [] a y∧a.isHome=false)(g:ArgsIn w as ys):ArgsIn w (a::as) (y::ys):=
 ⟨g.1.consN h.1 h.2,fun b hb=>by
  rcases WZ.1 hb with rfl|hb
  ·exact h.2
  ·exact g.2 b hb⟩
theorem Grew.below {w':World}(g:Grew w w'):RowKit.Below w.heap.size w w':=⟨g.os,g.tape,g.output,g.size,g.same⟩
theorem CallsOk.plain {B:Base}{C:Sem1}(p:CallsOk P B C){x:Value}(h:C f as=some [(false,[.v x])])(q:B.ok w []){m:List Value}(u:ad.map Sl.er=as)(n:ArgsIn w ad m):
  Calls P f m.toArray w fun e w'=>e = .returned x∧RowKit.Below w.heap.size w w':=by
 refine(p f as _ h w [] ad m q u n.1).mono ?_;rintro e w' ⟨v,od,rd,rfl,g,j,A,R⟩;have:=OutsOk.none n.2 A;subst this;rw[Gg]at j;refine⟨?_,g.grew.below⟩
 match rd,j,R with
 |[(D,ts)],j,R =>
  simp only[erR,WT,Xc,X4,Zk,YF]at j;obtain⟨rfl,i⟩:=j;rcases R.val with⟨r,l,o⟩|⟨l,_⟩|⟨d,z,row,l,_⟩
  ·cases l;simp only[VPart,W2,Xs]at o;obtain⟨t,rfl,hv⟩:=o;simp at i;cases t with
   |v y =>rw[dC]at i;cases i;rw[show v=_ from hv.1]
   |any=>cases i
   |s k d z r=>rw[aH]at i;cases i
  ·exact absurd rfl l
  ·simp only[X4,Zk,YF]at l;rw[l.2]at i;simp at i
 |[],j,R=>simp[erR]at j
 |a::b::c,j,R=>simp[erR]at j
def Ev (P:Nat→Prop):Prop:=∃N,∀k,N≤k→P k
theorem Ev.c {p:Prop}(h:p):Ev fun _=>p:=⟨0,fun _ _=>h⟩
theorem Ev.mono {P Q:Nat→Prop}(h:Ev P)(f:∀k,P k→Q k):Ev Q:=by obtain⟨N,h⟩:=h;exact⟨N,fun k a=>f k (h k a)⟩
theorem Ev.and {P Q:Nat→Prop}(h:Ev P)(g:Ev Q):Ev fun k=>P k∧Q k:=by obtain⟨N,h⟩:=h;obtain⟨M,g⟩:=g;exact⟨max N M,fun k a=>⟨h k (by omega),g k (by omega)⟩⟩
def AllE:List (Nat→Prop)→Prop|[]=>True| φ::a=>Ev φ∧AllE a
theorem AllE.ev:∀{φ:List (Nat→Prop)},AllE φ→Ev fun k=>ef (φ.map fun ψ=>ψ k)
 |[],_=>⟨0,fun _ _=>trivial⟩
 |_::_,h=>(Ev.and h.1 (AllE.ev h.2)).mono fun _ h=>h
structure Env where
 tab:Tab
 fns:FuncId→Option Func
 hints:FuncId→kK
 orc:Sem1→Sem1
variable{E:Env}
noncomputable abbrev Env.C (E:Env)(k:Nat):Sem1:=vg E.tab E.fns E.hints E.orc k
def Does (E:Env)(f:FuncId)(as:List (Sl Unit Unit))(rs:URes):Prop:=Ev fun k=>E.C k f as=some rs
theorem VY {fn:Func}(p:List Dc)(φ:List (Nat→Prop))(hf:E.fns f=some fn)(a:∀C,E.orc C f as=none)(h:∀k,J2 E.tab E.fns (E.C k) (E.hints f) k f fn as p=some (rs,φ.map fun ψ=>ψ k))(b:AllE φ):Does E f as rs:=by
 obtain⟨N,c⟩:=b.ev;refine⟨N+1,fun k d=>?_⟩;obtain⟨k,rfl⟩:∃j,k=j+1:=⟨k-1,by omega⟩
 exact Sf p hf (a _) (h k) (c k (by omega))
theorem Does.orc (h:Ev fun k=>E.orc (E.C k) f as=some rs):Does E f as rs:=by
 obtain⟨N,h⟩:=h;refine⟨N+1,fun k a=>?_⟩;obtain⟨k,rfl⟩:∃j,k=j+1:=⟨k-1,by omega⟩
 show vg E.tab E.fns E.hints E.orc (k+1) f as=some rs;simp only[vg];rw[h k (by omega)]
theorem V7 {rs':URes}(h:Does E f as rs)(e:rs=rs'):Does E f as rs':=e ▸ h
theorem AD {φ:List (Nat→Prop)}(h:Does E f as rs)(t:AllE φ):AllE ((fun k=>E.C k f as=some rs)::φ):=⟨h,t⟩
theorem AV {ψ:Nat→Prop}{φ:List (Nat→Prop)}(h:Ev ψ)(t:AllE φ):AllE (ψ::φ):=⟨h,t⟩
theorem AC {p:Prop}{φ:List (Nat→Prop)}(h:p)(t:AllE φ):AllE ((fun _=>p)::φ):=⟨⟨0,fun _ _=>h⟩,t⟩
theorem AN:AllE []:=trivial
theorem V9 {b a:Bool}(h:Does E f as [(false,[.v (.bool b)])])(e:b=a):Does E f as [(false,[.v (.bool a)])]:=e ▸ h
abbrev rT:Dc := .ret [(false,[.v (.bool true)])]
abbrev rF:Dc := .ret [(false,[.v (.bool false)])]
abbrev tI (n:Int):T Unit := .v (.int .i64 n)
abbrev tY (n:Int):T Unit := .v (.int .u8 n)
abbrev tB (b:Bool):T Unit := .v (.bool b)
abbrev tS (s:Zz):T Unit := .v (.string s)
def rQ:Code→List Code| .seq x y=>rQ x++rQ y| .cond _ x y=>rQ x++rQ y| .block _ c=>rQ c| .loop c=>c::rQ c|_=>[]
def aq (fn:Func)(i:Nat):Code:=(rQ (fn.body.getD .skip)).getD i .skip
def Round (E:Env)(f:FuncId)(c:Code)(D:US)(e:Exit)(D':US):Prop :=Ev fun k=>∀(R:Type)(K:Exit→US→Option R),(gd E.tab E.fns (E.C k) (E.hints f) k c D fun e D'=>K e (canon (E.hints f) c e D'))=K e D'
noncomputable def LO (E:Env)(f:FuncId)(k:Nat)(c:Code)(D:US)(p:List Dc):Option ((Exit×US)×List Prop):=
 match pj E.tab E.fns (E.C k) (E.hints f) k c D p with
 |some ((e,D1),_,φ)=>some ((e,canon (E.hints f) c e D1),φ)
 |none=>none
theorem VX {c:Code}(p:List Dc){e:Exit}(φ:List (Nat→Prop))(h:∀k,LO E f k c D p=some ((e,D'),φ.map fun ψ=>ψ k))(a:AllE φ):Round E f c D e D' :=
 a.ev.mono fun k b R K=>by
  have h:=h k;unfold LO at h;split at h
  ·rename_i g D1 r i d;cases h;exact rW c d b _
  ·cases h
abbrev OY (E:Env)(f:FuncId)(c:Code)(D:US)(e:Exit)(D':US)(k m:Nat):Prop :=∀(R:Type)(K:Exit→US→Option R),ui (fun D K=>gd E.tab E.fns (E.C k) (E.hints f) k c D fun e D'=>K e (canon (E.hints f) c e D')) m D K=K e D'
def Loops (E:Env)(f:FuncId)(c:Code)(D:US)(e:Exit)(D':US):Prop:=∃N,∀k,N≤k→∀m,N≤m→OY E f c D e D' k m
theorem Loops.ev {c:Code}{e:Exit}(h:Loops E f c D e D'):Ev fun k=>OY E f c D e D' k k:=by obtain⟨N,h⟩:=h;exact⟨N,fun k a=>h k a k a⟩
theorem V3 {c:Code}{e:Exit}(h:Round E f c D e D')(a:e ≠ .normal:=by intro h;cases h):Loops E f c D e D':=by
 obtain⟨N,h⟩:=h;refine⟨N+1,fun k b m d R K=>?_⟩;obtain⟨m,rfl⟩:∃j,m=j+1:=⟨m-1,by omega⟩
 simp only[ui];refine(h k (by omega) R _).trans ?_;cases e with
 |normal=>exact absurd rfl a
 |_=>rfl
theorem V2 {c:Code}{e:Exit}{D1:US}(h:Round E f c D .normal D1)(g:Loops E f c D1 e D'):Loops E f c D e D':=by
 obtain⟨N,h⟩:=h;obtain⟨M,g⟩:=g;refine⟨N+M+1,fun k a m b R K=>?_⟩;obtain⟨m,rfl⟩:∃j,m=j+1:=⟨m-1,by omega⟩
 simp only[ui];refine(h k (by omega) R _).trans ?_;exact g k (by omega) m (by omega) R K
def Ans (o:Option α)(Q:α→Prop):Prop:=∀r,o=some r→Q r
theorem VZ {r:α}{Q:α→Prop}(h:Q r):Ans (some r) Q:=fun _ e=>by cases e;exact h
theorem Ans.none {Q:α→Prop}:Ans (none:Option α) Q:=fun _ e=>by cases e
theorem V4 {Q:α→Prop}{c:Bool}{a b:Option α}(t:c=true→Ans a Q)(f:c=false→Ans b Q):Ans (cond c a b) Q:=by
 cases c
 ·exact f rfl
 ·exact t rfl
theorem V5 {Q:β→Prop}{x:Option α}{f:α→Option β}(h:∀y,x=Option.some y→Ans (f y) Q):Ans (x.bind f) Q:=by intro r e;rw[WA]at e;obtain⟨y,a,b⟩:=e;exact h y a r b
theorem V6 {Q:α→Prop}{p:Prop}[Decidable p]{a:Option α}(h:p→Ans a Q):Ans (if p then a else Option.none) Q:=by
 intro r e;split at e
 ·exact h ‹_› r e
 ·cases e
theorem Ans.mono {Q a:α→Prop}{o:Option α}(h:Ans o Q)(f:∀x,Q x→a x):Ans o a:=fun r e=>f r (h r e)
def stL (n:Nat)(l:List (Nat×Sl Unit Unit)):US:=l.foldl (fun D p=>D.set p.1 p.2) (List.replicate n .any)
theorem V8 {a:List (Sl Unit Unit)}(e:as=a)(h:Does E f a rs):Does E f as rs:=e ▸ h
def etI (n:Int):List (T Unit):=[tI n]
def etY (n:Int):List (T Unit):=[tY n]
def etB (n:Bool):List (T Unit):=[tB n]
def etS (n:Zz):List (T Unit):=[tS n]
def ar (l:List α)(n:Int):Option α:=if 0≤n then l[n.toNat]? else none
theorem lI {l:List α}{n:Int}{x:α}(h:ar l n=some x):0≤n∧l[n.toNat]?=some x:=by
 unfold ar at h;split at h
 ·exact⟨‹_›,h⟩
 ·cases h
theorem Rw {l:List α}{n:Int}{x:α}{f:α→β}(h:ar l n=some x):0≤n∧(l.map f)[n.toNat]?=some (f x):=by obtain⟨a,b⟩:=lI h;exact⟨a,by rw[WQ,b];rfl⟩
theorem bC {l:List α}{n:Int}{x:α}{f:α→β}(h:ar l n=some x):(l.map f)[0+n.toNat]?=some (f x):=by rw[Yk];exact(Rw h).2
theorem di {l:List α}{n:Int}{x:α}{f:α→β}(h:ar l n=some x):0≤n∧n<((l.map f).length:Int):=by
 obtain⟨b,a⟩:=lI h;refine⟨b,?_⟩;have:n.toNat<l.length:=by
  rcases WI n.toNat l.length with g|g
  ·exact g
  ·rw[WF g]at a;cases a
 rw[W6];omega
theorem cu {l:List α}{n:Nat}{a:α}{f:α→β}{r:β}(h:r=f a):(l.map f).set (0+n) r=(l.set n a).map f:=by rw[h,YB,Yk]
theorem nj {n:Nat}{x:α}{f:α→β}{r:β}(h:r=f x):List.replicate n r=(List.replicate n x).map f:=by rw[Zd,h]
theorem Uu {l:List α}{f:α→β}:((l.map f).length:Int)=(l.length:Int):=by rw[W6]
theorem Cu {l l2:List α}{f:α→List (T Unit)}{n:Nat}(hf:∀x,(f x).all T.flat=true)(h:(l.length+l2.length)*n≤140737488355328∧l.length+l2.length≤4611686018427387904):
  (l2.map f).all (fun r=>r.all T.flat)=true∧((l.map f).length+(l2.map f).length)*n≤140737488355328∧(l.map f).length+(l2.map f).length≤4611686018427387904:=by
 refine⟨?_,by simpa using h.1,by simpa using h.2⟩;rw[XI,WS];exact fun x _=>hf x
theorem mU {l l2:List α}{f:α→β}:l.map f++l2.map f=(l++l2).map f:=by rw[XB]
theorem FA:∀(l:List Int),ey (l.map etY)=some l
 |[]=>rfl
 |n::l=>by show(ey (l.map etY)).map _=_;rw[FA l];rfl
theorem Mw {l:List Int}:(ey (l.map etY)).map strOfNums=some (strOfNums l):=by rw[FA];rfl
def cw (s:Zz):List Int:=s.data.toList.map fun b=>(b.toNat:Int)
theorem Does.plain (b:bz P E.tab)(hf:jk P E.fns){B:Base}(c:∀C,CallsOk P B C→CallsOk P B (E.orc C)){x:Value}(h:Does E f as [(false,[.v x])])(d:B.ok w []){a:List Value}(g:ad.map Sl.er=as)(i:ArgsIn w ad a):
  Calls P f a.toArray w fun e w'=>e = .returned x∧RowKit.Below w.heap.size w w':=by
 obtain⟨N,h⟩:=h;exact CallsOk.plain (zA b hf E.hints c N) (h N (Xj _)) d g i
def PB (P:Program)(a:List Nat)(f:FuncId):Option Func:=if a.contains f=true then P.funcs[f]? else none
theorem Tb {a : List Nat}(h : (a.all fun k => match P.funcs[k]? with | some f => !(f.name == "runtime.NumGoroutine") && !f.body.isNone | none => false) = true) : jk P (PB P a) := by
 intro f fn hf;unfold PB at hf;split at hf
 case isFalse=>cases hf
 rename_i hc;have q:=WS.1 h f (by simpa using hc);rw[hf]at q;simp only[W0]at q;exact⟨hf,by simpa using q.1,by simpa using q.2⟩
class ab (α:Type) where
 sm:α→Prop
instance:ab Int:=⟨fun _=>True⟩
instance:ab Bool:=⟨fun _=>True⟩
instance:ab Zz:=⟨fun s=>s.size≤1050000⟩
instance  {α:Type}[ab α]:ab (List α):=⟨fun l=>l.length≤1050000∧∀y∈l,ab.sm y⟩
theorem dR (n:Int)(h : -9223372036854775808≤n)(a:n≤9223372036854775807):IntKind.wrap .i64 n=n:=by simp only[IntKind.wrap,IntKind.bits,IntKind.signed];simp;omega
abbrev inc (x:Int):Int:=IntKind.wrap .i64 (x+(1:Int))
theorem cr (x:Int)(h : -9223372036854775809≤x)(a:x<9223372036854775807):inc x=x+1:=dR _ (by omega) (by omega)
theorem dA (l:List α)(i:Nat):ar l (i:Int)=l[i]?:=by unfold ar;rw[Wz (by omega)];simp
theorem TJ (i:Nat)(h:i<9223372036854775807):IntKind.wrap .i64 ((i:Int)+1)=((i+1:Nat):Int):=by rw[dR _ (by omega) (by omega)];omega
theorem aT {l:List α}{n:Int}{x y:α}(h:ar l n=some x):ar (l.set n.toNat y) n=some y:=by
 obtain⟨c,b⟩:=lI h;have a:n.toNat<l.length:=by
  rcases WI n.toNat l.length with g|g
  ·exact g
  ·rw[WF g]at b;cases b
 unfold ar;rw[Wz c,WN a]
theorem dt {l:List α}{n:Nat}{x a:α}{f:α→β}{r:β}(h:r=f a):((l.set n x).map f).set (0+n) r=(l.set n a).map f:=by rw[cu h,Zs]
section
variable  {α : Type}{l : List α}{i : Nat}{x : α}{r : List α}
theorem aP (h:l.drop i=[]):decide ((i:Int)<(l.length:Int))=false:=WH (by have:=List.drop_eq_nil_iff.1 h;omega)
theorem oP (h:l.drop i=x::r):i<l.length:=by
 rcases WI i l.length with g|g
 ·exact g
 ·rw[Xn g]at h;cases h
theorem aI (h:l.drop i=x::r):decide ((i:Int)<(l.length:Int))=true:=WJ (by have:=oP h;omega)
theorem aK (h:l.drop i=x::r):ar l (i:Int)=some x:=by have hi:=oP h;rw[XQ hi]at h;cases h;rw[dA,WE hi]
theorem aJ (h:l.drop i=x::r)(a:l.length≤9223372036854775807):inc (i:Int)=((i+1:Nat):Int):=TJ i (by have:=oP h;omega)
theorem az (h:l.drop i=x::r):l.drop (i+1)=r:=by have hi:=oP h;rw[XQ hi]at h;cases h;rfl
end
section
variable  {α : Type}{done rest : List α}{i : Nat}{hd x : α}
theorem yi (h:i=done.length):decide ((i:Int)<(done.length:Int))=false:=WH (by omega)
theorem uz (h:i=done.length):decide ((i:Int)<((done++hd::rest).length:Int))=true:=WJ (by simp;omega)
theorem uA (h:i=done.length)(a:(done++hd::rest).length≤9223372036854775807):inc (i:Int)=((i+1:Nat):Int):=TJ i (by simp at a;omega)
theorem yj (h:i=done.length):ar (done++hd::rest) (i:Int)=some hd:=by rw[dA,h];simp
theorem se (h:i=done.length):(done++hd::rest).set (i:Int).toNat x=(done++[x])++rest:=by subst h;simp
end
theorem lA (s:Zz):(cw s).length=s.size:=by unfold cw;simp
theorem xx (s:Zz)(i:Nat)(h:i<s.size):(cw s)[i]?=some (jl s (i:Int)):=by unfold cw jl;rw[WQ];have hs:i<s.data.size:=h;simp only[X2];have:s[i]?=some s[i]:=getElem?_pos s i h;rw[this];simp only[Array.getElem?_toList,Xg hs,WB,YA];rfl
section
variable  {s : Zz}{i : Nat}{x : Int}{r : List Int}
theorem uP (h:(cw s).drop i=[]):decide ((i:Int)<(s.size:Int))=false:=by rw[←lA];exact aP h
theorem sS (h:(cw s).drop i=x::r):decide ((i:Int)<(s.size:Int))=true:=by rw[←lA];exact aI h
theorem sT (h:(cw s).drop i=x::r)(a:s.size≤9223372036854775807):inc (i:Int)=((i+1:Nat):Int):=aJ h (by rw[lA];exact a)
theorem xQ (h:(cw s).drop i=x::r):0≤(i:Int)∧(i:Int)<(s.size:Int):=by have:=oP h;rw[lA]at this;omega
theorem xP (h:(cw s).drop i=x::r):x=jl s (i:Int):=by have hi:=oP h;have a:=aK h;rw[lA]at hi;rw[dA,xx s i hi]at a;cases a;rfl
end
class Wf (α:Type) where
 wf:α→Prop
instance:Wf Int:=⟨fun _=>True⟩
instance:Wf Bool:=⟨fun _=>True⟩
instance:Wf Zz:=⟨fun s=>s.size≤9223372036854775807⟩
instance  {α:Type}[Wf α]:Wf (List α):=⟨fun l=>l.length≤9223372036854775807∧∀y∈l,Wf.wf y⟩
def yes (a b:α):Bool:=true
def Tot (o:Option α):Prop:=∃b,o=some b
theorem Tot.some (b:α):Tot (some b):=⟨b,rfl⟩
theorem Tot.cond {c:Bool}{a b:Option α}(h:Tot a)(g:Tot b):Tot (cond c a b):=by cases c;exact g;exact h
theorem Tot.ite {p:Prop}[Decidable p]{a:Option α}(b:p)(h:Tot a):Tot (if p then a else none):=by rw[Wz b];exact h
theorem Tot.bind {a:Option α}{f:α→Option β}(h:Tot a)(g:∀y,a=Option.some y→Tot (f y)):Tot (a.bind f):=by obtain⟨b,rfl⟩:=h;exact g b rfl
theorem Tot.getD {o:Option α}(h:Tot o)(d:α):o=Option.some (o.getD d):=by obtain⟨b,rfl⟩:=h;rfl
theorem gL {e:Int}{k:Option Int}{r:Int}(h:cond (decide (e<(0:Int))) (some (-1:Int)) k=some r)(a:0≤r):0≤e∧k=some r:=by
 by_cases q:e<0
 ·rw[WJ q]at h;simp at h;omega
 ·rw[WH q]at h;exact⟨by omega,h⟩
theorem oo {n:Int}{k:Nat}(a:0≤n)(b:n≤1048576)(c:k≤9223372036854775807)(h:0≤IntKind.wrap .i64 (n-(k:Int))):IntKind.wrap .i64 (n-(k:Int))≤n∧k≤1048576:=by rw[dR _ (by omega) (by omega)]at h ⊢;omega
theorem uD {v:List α}{i:Nat}{y:α}(hi:i<v.length):(v.set i y).take (i+1)=v.take i++[y]:=by rw[YT,WN hi,List.take_set_of_le (Xj i)];rfl
theorem cK [ab α]{l:List α}(h:ab.sm l):l.length≤9223372036854775807:=Xu h.1 (by decide)
theorem ip {n:Nat}(h:n≤1048576):n≤1050000:=Xu h (by decide)
theorem yh {n k:Nat}(b:Nat)(hb:b≤1000)(h:n≤1050000)(a:k=n):0≤(n:Int)∧(n:Int)≤(k:Int)∧((b:Nat):Int)*(k:Int)≤281474976710656∧(k:Int)≤4611686018427387904:=by
 subst a;have:b*k≤1000*1050000:=Nat.mul_le_mul hb h;have c:((b*k:Nat):Int)=(b:Int)*(k:Int):=by push_cast;rfl
 refine⟨by omega,by omega,?_,by omega⟩;rw[←c];omega
theorem GQ {c:Bool}(h:c=false→k=some true):cond c (some true) k=some true:=by
 cases c
 ·exact h rfl
 ·rfl
theorem Ut {p:Prop}[Decidable p](a:p)(h:k=some true):(if p then k else none)=some true:=by rw[Wz a];exact h
theorem UQ {c:Int}(h:0≤c→k=some true):cond (decide (c<(0:Int))) (some true) k=some true:=by
 refine GQ fun q=>h ?_
 rw[YR]at q;omega
theorem xE {l l2:List α}{f:α→β}{n:Nat}(h:(l.length+l2.length)*n≤140737488355328∧l.length+l2.length≤4611686018427387904):
  ((l.map f).length+(l2.map f).length)*n≤140737488355328∧(l.map f).length+(l2.map f).length≤4611686018427387904:=by rw[W6,W6];exact h
theorem uy {l:List α}{f:α→List (T Unit)}{n:Nat}(hf:∀x,(f x).all T.flat=true)(h:l.length*n≤140737488355328∧l.length≤4611686018427387904):
  (l.map f).all (fun r=>r.all T.flat)=true∧(([]:List (List (T Unit))).length+(l.map f).length)*n≤140737488355328∧([]:List (List (T Unit))).length+(l.map f).length≤4611686018427387904 :=
 Cu (l:=[]) hf (by simpa using h)
def bu (enc:α→Value)(l:List α):List (List DT):=l.map fun x=>[.v (enc x)]
theorem LP [Inhabited α](enc:α→Value)(l:List α){i:Nat}(h:i<l.length):(bu enc l)[i]?=some [.v (enc l[i]!)]:=by unfold bu;rw[WQ,WE h,Yu l i h];rfl
theorem Ij (enc:α→Value)(l:List α):((bu enc l).flatMap fun x=>x.flatMap bl)=[]:=by rw[WY];intro r a;obtain⟨x,_,rfl⟩:=WU.1 a;rfl
theorem Kg (enc:α→Value)(l:List α)(h:d.nil=false)(k:Kd):bl (.s k d 1 (bu enc l))=[d.b]:=by rw[cS,h,Ij];rfl
theorem CB (enc:α→Value)(l:List α):(bu enc l).map erL=l.map fun x=>[.v (enc x)]:=by unfold bu;rw[Xk];rfl
theorem GW [Inhabited α](enc:α→Value){l:List α}(i:l≠[])(r:Holds w (.s .own d 1 (bu enc l)))(t:OwnT w (.s .own d 1 (bu enc l))):
  Go.Sort.Holds enc w d.b d.o l.toArray∧d.b<w.heap.size∧l.length≤d.cap∧d.addr=some ⟨d.b,d.o,none⟩∧d.nil=false:=by
 have k:0<l.length:=Zc.2 i;generalize m:bu enc l=rows at *;have a:rows.length=l.length:=by rw[←m];simp[bu]
 cases r with
 |e=>simp at a;omega
 |s _ _ _ _ q1 u c e f h D F v G =>
  cases t with
  |nil=>simp at a;omega
  |s _ _ _ H I J K lo hi n L M x N =>
   rw[h]at n;cases n;refine⟨fun j p=>?_,d8 h,by omega,by rw[Dec.addr_none u,q1];rfl,q1⟩;have g:j<l.length:=by simpa using p
   have A:rows[j]?=some [.v (enc l[j]!)]:=by rw[←m];exact LP enc l g
   obtain⟨y,q,hv⟩:=v j _ 0 _ A rfl;have B:d.o+j*1+0=d.o+j:=by omega
   rw[B]at q;have C:(l.toArray[j]!)=l[j]! := by rw[Yu l.toArray j p,Yu l j g];simp
   refine⟨?_,?_⟩
   ·unfold World.cell?;simp only[h];rw[C];simp only[Option.isSome_none,W2,Xs];rw[q,show y=_ from hv.1]
   ·unfold World.frozen?;simp only[h];have:=x (d.o+j) (by omega) (by omega);by_cases z:lo≤d.o+j
    ·simp[z];omega
    ·simp[z]
theorem Jm [Inhabited α](enc:α→Value)(off:Nat)(d:Array α)(c:Array Value):(Go.Sort.putCells enc off d c).size=c.size:=by simp[Go.Sort.putCells]
theorem LK [Inhabited α](enc:α→Value)(off:Nat)(d:Array α)(c:Array Value)(h:j<d.size)(hc:off+j<c.size):(Go.Sort.putCells enc off d c)[off+j]?=some (enc d[j]!):=by simp only[Go.Sort.putCells,Array.getElem?_mapIdx,Xg hc,WB];rw[Wz ⟨by omega,by omega⟩];congr 3;omega
theorem Dk [Inhabited α](enc:α→Value)(w:World)(q b off:Nat)(d:Array α)(x:Nat):(Go.Sort.putRow enc (Go.Sort.ahead w q) b off d).heap[x]?=if b=x then(w.heap[x]?).map (Go.Sort.onCells (Go.Sort.putCells enc off d))else w.heap[x]?:=by unfold Go.Sort.putRow Go.Sort.mapBlock Go.Sort.ahead;simp only[Y3]
theorem OI [Inhabited α](enc:α→Value)(n:∀x,(enc x).oneCell'=true){l:List α}(p:l≠[])(v:Holds w (.s .own d 1 (bu enc l)))(y:OwnT w (.s .own d 1 (bu enc l)))(q:Nat){l':List α}(P:l'.length=l.length){l2:List α}(z:l2 <+: l'):
  Holds (Go.Sort.putRow enc (Go.Sort.ahead w q) d.b d.o l'.toArray) (.s .own d 1 (bu enc l2))∧OwnT (Go.Sort.putRow enc (Go.Sort.ahead w q) d.b d.o l'.toArray) (.s .own d 1 (bu enc l2)) ∧
   GrewH [d.b] w (Go.Sort.putRow enc (Go.Sort.ahead w q) d.b d.o l'.toArray):=by
 obtain⟨Q,R,S,U,V⟩:=GW enc p v y;have A:0<l.length:=Zc.2 p;have F:l2.length≤l'.length:=z.length_le;generalize G:bu enc l=rows at *;have m:rows.length=l.length:=by rw[←G];simp[bu]
 cases v with
 |e=>simp at m;omega
 |s _ _ _ _ q1 H c e f B W X Y Z =>
  cases y with
  |nil=>simp at m;omega
  |s _ _ _ I J c' e' lo hi C K D L p7 =>
   rw[B]at C;cases C;have hb:(Go.Sort.putRow enc (Go.Sort.ahead w q) d.b d.o l'.toArray).heap[d.b]?=some (.cells (Go.Sort.putCells enc d.o l'.toArray c) e (lo,hi)):=by rw[Dk,Wz rfl,B];rfl
   have k:∀(i:Nat)(row:List DT),(bu enc l2)[i]?=some row→i<l2.length∧row=[.v (enc l2[i]!)]:=by
    intro i row h;have hi:i<l2.length:=by
     rcases WI i l2.length with g|g
     ·exact g
     ·rw[WF (by simpa[bu]using g)]at h;cases h
    rw[LP enc l2 hi]at h;cases h;exact⟨hi,rfl⟩
   have r:∀i,i<l2.length→l2[i]! = l'.toArray[i]! := by intro i hi;rw[Yu l2 i hi,Yu l'.toArray i (by simp;omega)];simp only[Zb];exact(z.getElem hi)
   have M:d.o+l.length≤c.size:=by have:=Xu K (Xj _);have a:d.o+d.cap*1≤c.size:=D;omega
   refine⟨.s _ _ _ _ q1 H _ e (lo,hi) hb (by simp[bu];omega) (fun i row h=>by rw[(k i row h).2];rfl) (fun i row j t u a=>?_) (fun i row j t u a=>?_),
    .s _ _ _ I J _ e lo hi hb (by simp[bu];omega) (by rw[Jm];exact D) L (fun i row j t u a=>?_),⟨rfl,rfl,rfl,?_,fun b hb N=>?_⟩⟩
   ·obtain⟨hi,rfl⟩:=k i row u;cases j with
    |succ j=>simp at a
    |zero =>
     simp only[Xw,Xd]at a;subst a;refine⟨enc l2[i]!,?_,rfl,n _⟩;have O:d.o+i*1+0=d.o+i:=by omega
     rw[O,LK enc d.o l'.toArray c (by simp;omega) (by omega),r i hi]
   ·obtain⟨hi,rfl⟩:=k i row u;cases j with
    |succ j=>simp at a
    |zero=>simp only[Xw,Xd]at a;subst a;exact .v _
   ·obtain⟨hi,rfl⟩:=k i row u;cases j with
    |succ j=>simp at a
    |zero=>simp only[Xw,Xd]at a;subst a;exact .v _
   ·show w.heap.size≤(w.heap.modify d.b _).size;simp
   ·rw[Dk,WM (fun h=>N (by simp[h]))]
theorem RX {s:DSl}{x:Value}(h:s.er = .one (.v x)):s = .one (.v x):=by
 cases s with
 |one t =>
  simp only[Sl.er,Sl.one.injEq]at h;cases t with
  |v y=>rw[dC]at h;cases h;rfl
  |any=>cases h
  |s k d z r=>rw[aH]at h;cases h
 |_=>simp[Sl.er]at h
theorem Dj {w:World}{X:List Nat}:∀{xs:List Value}{ad:List DSl}{c:List Value},ad.map Sl.er=xs.map (fun x=>(.one (.v x):Sl Unit Unit))→ArgsOk w X ad c→c=xs∧ad.flatMap c7=[]∧∀a∈ad,a.isHome=false
 |[],[],c,_,h=>by have:=h.1;have:c=[]:=XH.1 this.symm;subst this;exact⟨rfl,rfl,fun a d=>by cases d⟩
 |[],a::ad,c,e,_=>by simp at e
 |x::xs,[],c,e,_=>by simp at e
 |x::xs,a::ad,c,e,h=>by
  simp only[WT,X4]at e;have d:=RX e.1;subst d
  match c,h with
  |[],h=>have:=h.1;simp at this
  |v::c,h =>
   have hv:=(h.2.1 0 _ v rfl rfl).val [];have f:ArgsOk w X ad c:=⟨by simpa using h.1,fun i g j q1 k=>h.2.1 (i+1) g j (by simpa using q1) (by simpa using k),fun b=>by have:=h.2.2 b;rw[W1,W3]at this;omega⟩
   obtain⟨l,m,n⟩:=Dj e.2 f;refine⟨by rw[l,show v=x from hv.1],?_,fun s hs=>?_⟩
   ·rw[W1,m];rfl
   ·rcases WZ.1 hs with rfl|hs
    ·rfl
    ·exact n s hs
theorem OutsOk.nil' {w':World}:∀{ad:List DSl}{b:List Value},ad.length=b.length→(∀a∈ad,a.isHome=false)→OutsOk w' ad b []
 |[],b,h,_=>by have:b=[]:=XH.1 h.symm;subst this;rfl
 |a::ad,[],h,_=>by simp at h
 |a::ad,v::b,h,hh=>by have c:=Bg (hh a (by simp));unfold OutsOk;rw[c];exact OutsOk.nil' (by simpa using h) fun s hs=>hh s (by simp[hs])
theorem RetOk.plain {w':World}{X:List Nat}{x:Value}(h:x.oneCell'=true):RetOk w X w' [] [] [(false,[.v x])] x where
 val := .inl ⟨_,rfl,by simp only[VPart,W2,Xs];exact⟨_,rfl,rfl,h⟩⟩
 fine:=fun r a t c=>by rw[W7,WG]at a;subst a;rw[WG]at c;subst c;rfl
 holds:=fun r a t c=>by rw[W7,WG]at a;subst a;rw[WG]at c;subst c;exact .v _
 own:=fun r a t c _=>by rw[W7,WG]at a;subst a;rw[WG]at c;subst c;exact .v _
 once:=fun b=>by simp[bG,ownR,T.isOwn]
 new:=fun b hb=>by simp[bG,ownR,T.isOwn]at hb
theorem RetOk.tuple {w':World}{X:List Nat}{xs:List Value}(h:∀x∈xs,x.oneCell'=true)(g:xs.length≠1):RetOk w X w' [] [] (xs.map fun x=>(false,[.v x])) (.tuple xs.toArray) where
 val := .inr (.inl ⟨by simpa using g,xs.toArray,rfl,by simp,fun i r v f d=>by
  rw[WQ,WD]at f;obtain⟨x,h3,rfl⟩:=f;have e:v=x:=by simp at d;rw[h3]at d;exact(Yn d).symm
  subst e;simp only[VPart,W2,Xs];exact⟨_,rfl,rfl,h v (WC h3)⟩⟩)
 fine:=fun r a t c=>by rw[W7]at a;obtain⟨x,_,rfl⟩:=WU.1 a;rw[WG]at c;subst c;rfl
 holds:=fun r a t c=>by rw[W7]at a;obtain⟨x,_,rfl⟩:=WU.1 a;rw[WG]at c;subst c;exact .v _
 own:=fun r a t c _=>by rw[W7]at a;obtain⟨x,_,rfl⟩:=WU.1 a;rw[WG]at c;subst c;exact .v _
 once:=fun b=>by
  have:bG ([]++xs.map fun x=>(false,[(.v x:DT)]))=[]:=by unfold bG;rw[WY];intro r a;rw[W7]at a;obtain⟨x,_,rfl⟩:=WU.1 a;rfl
  rw[this];simp
 new:=fun b hb=>by
  have:bG ([]++xs.map fun x=>(false,[(.v x:DT)]))=[]:=by unfold bG;rw[WY];intro r a;rw[W7]at a;obtain⟨x,_,rfl⟩:=WU.1 a;rfl
  rw[this]at hb;cases hb
theorem RetOk.freshRow (enc:α→Value)(n:∀x,(enc x).oneCell'=true){w':World}{X:List Nat}{b cap:Nat}{l:List α}{e:TypeId}{lo hi:Nat}(h:w'.heap[b]?=some (.cells cs e (lo,hi)))(p:∀(j:Nat)(x:α),l[j]?=some x→cs[j]?=some (enc x))(s:l.length≤cap)(hcap:cap≤cs.size)(hf:∀q,q<cap→¬(lo≤q∧q<hi))(hb:w.heap.size≤b∨b∈X):
  RetOk w X w' [] [] [(false,[.s .own ⟨b,0,cap,false,none⟩ 1 (bu enc l)])] (.slice (some ⟨b,0,none⟩) l.length cap):=by
 have f:(bu enc l).length=l.length:=by simp[bu]
 have a:∀(i:Nat)(row:List DT),(bu enc l)[i]?=some row→∃x,l[i]?=some x∧row=[.v (enc x)]:=fun i row c=>by unfold bu at c;rw[WQ,WD]at c;obtain⟨x,g,rfl⟩:=c;exact⟨x,g,rfl⟩
 have v:Holds w' (.s .own ⟨b,0,cap,false,none⟩ 1 (bu enc l)):=by
  refine .s _ _ _ _ rfl rfl _ e _ h (by rw[f];exact s) (fun i row c=>?_) (fun i row j u g d=>?_) (fun i row j u g d=>?_)
  ·obtain⟨_,_,rfl⟩:=a i row c;rfl
  ·obtain⟨x,m,rfl⟩:=a i row g;cases j with
   |zero =>simp only[Xw,Xd]at d;subst d;exact⟨_,by simpa using p i x m,rfl,n x⟩
   |succ j=>simp at d
  ·obtain⟨x,m,rfl⟩:=a i row g;cases j with
   |zero=>simp only[Xw,Xd]at d;subst d;exact .v _
   |succ j=>simp at d
 have y:OwnT w' (.s .own ⟨b,0,cap,false,none⟩ 1 (bu enc l)):=by
  refine .s _ _ _ rfl rfl _ e _ _ h (by rw[f];exact s) (by simpa using hcap) (fun q g d=>hf q (by simpa using d)) (fun i row j u g d=>?_);obtain⟨x,m,rfl⟩:=a i row g;cases j with
  |zero=>simp only[Xw,Xd]at d;subst d;exact .v _
  |succ j=>simp at d
 have o:bG ([]++[(false,[(.s .own ⟨b,0,cap,false,none⟩ 1 (bu enc l):DT)])])=[b]:=by simp only[bG,W7,W1,Yr,WX,ownR,T.isOwn,W8];exact Kg enc l rfl _
 refine⟨.inl ⟨_,rfl,?_⟩,?_,?_,?_,?_,?_⟩
 ·simp only[VPart,W2,Xs];exact⟨_,rfl,by simp[VT,Dec.addr,f]⟩
 ·intro r c t k;rw[W7,WG]at c;subst c;rw[WG]at k;subst k;rfl
 ·intro r c t k;rw[W7,WG]at c;subst c;rw[WG]at k;subst k;exact v
 ·intro r c t k _;rw[W7,WG]at c;subst c;rw[WG]at k;subst k;exact y
 ·intro x;rw[o];simp[XL];split<;>omega
 ·intro x m;rw[o,WG]at m;subst m;exact⟨hb,d8 h⟩
def na:List (List (T Unit))→Option (List Int)
 |[]=>some []
 |[.v (.int .i64 n)]::r=>(na r).map (n :: ·)
 |_=>none
theorem ug:∀(l:List Int),na (l.map etI)=some l
 |[]=>rfl
 |n::l=>by show(na (l.map etI)).map _=_;rw[ug l];rfl
theorem zi:∀{rows:List (List DT)}{l:List Int},na (rows.map erL)=some l→rows=bu (Value.int .i64) l
 |[],l,h=>by cases h;rfl
 |r::rows,l,h=>by
  match r with
  |[]=>cases h
  |[t]=>
   cases t with
   |any=>cases h
   |s k d z q=>simp only[WT,erL,Xc,aH]at h;cases h
   |v x =>
    cases x with
    |int k n =>
     cases k with
     |i64 =>have a:(na (rows.map erL)).map (n :: ·)=some l:=h;rw[WD]at a;obtain⟨l',b,rfl⟩:=a;rw[zi b];rfl
     |_=>cases h
    |_=>cases h
  |t::u::r=>cases t with
   |v x=>cases x with
    |int k n=>cases k<;>cases h
    |_=>cases h
   |any=>cases h
   |s k d z q=>simp only[WT,erL,aH]at h;cases h
def vp:List (List (T Unit))→Option (List Zz)
 |[]=>some []
 |[.v (.string s)]::r=>(vp r).map (s :: ·)
 |_=>none
theorem FV:∀(l:List Zz),vp (l.map etS)=some l
 |[]=>rfl
 |s::l=>by show(vp (l.map etS)).map _=_;rw[FV l];rfl
theorem My:∀{rows:List (List DT)}{l:List Zz},vp (rows.map erL)=some l→rows=bu Value.string l
 |[],l,h=>by cases h;rfl
 |r::rows,l,h=>by
  match r with
  |[]=>cases h
  |[t]=>
   cases t with
   |any=>cases h
   |s k d z q=>simp only[WT,erL,Xc,aH]at h;cases h
   |v x =>
    cases x with
    |string n =>have a:(vp (rows.map erL)).map (n :: ·)=some l:=h;rw[WD]at a;obtain⟨l',b,rfl⟩:=a;rw[My b];rfl
    |_=>cases h
  |t::u::r=>cases t with
   |v x=>cases x<;>cases h
   |any=>cases h
   |s k d z q=>simp only[WT,erL,aH]at h;cases h
theorem Cy {s:DSl}{k:Kd}{z:Nat}{rows:List (List (T Unit))}(h:s.er = .one (.s k () z rows)):∃d a,s = .one (.s k d z a)∧a.map erL=rows:=by
 cases s with
 |one t =>
  simp only[Sl.er,Sl.one.injEq]at h;cases t with
  |v y=>rw[dC]at h;cases h
  |any=>cases h
  |s k' d b r=>rw[aH]at h;cases h;exact⟨d,r,rfl,rfl⟩
 |_=>simp[Sl.er]at h
theorem AL {c:Code}{e:Exit}{φ:List (Nat→Prop)}(h:Loops E f c D e D')(t:AllE φ):AllE ((fun k=>OY E f c D e D' k k)::φ):=⟨h.ev,t⟩
theorem Round.to {c:Code}{D1:US}{e:Exit}(h:Round E f c D e D1)(q:D1=D'):Round E f c D e D':=q ▸ h
theorem AG {l:List α}{n:Int}{x:α}(f:α→List (T Unit)){φ:List (Nat→Prop)}(h:ar l n=some x)(t:AllE φ):AllE ((fun _=>0≤n∧n<((l.map f).length:Int))::(fun _=>(l.map f)[0+n.toNat]?=some (f x))::φ):=⟨Ev.c (di h),Ev.c (bC h),t⟩
theorem AR {l:List α}{n:Int}{x:α}(f:α→List (T Unit)){φ:List (Nat→Prop)}(h:ar l n=some x)(t:AllE φ):AllE ((fun _=>0≤n∧(l.map f)[n.toNat]?=some (f x))::φ):=⟨Ev.c (Rw h),t⟩
theorem ALn (l:List α)(f:α→List (T Unit)){φ:List (Nat→Prop)}(t:AllE φ):AllE ((fun _=>((l.map f).length:Int)=(l.length:Int))::φ):=⟨Ev.c Uu,t⟩
theorem AAp {l l2:List α}{n:Nat}(f:α→List (T Unit)){φ:List (Nat→Prop)}(hf:∀x,(f x).all T.flat=true)(h:(l.length+l2.length)*n≤140737488355328∧l.length+l2.length≤4611686018427387904)(t:AllE φ):
  AllE ((fun _=>(((l2.map f).drop 0).take (l2.map f).length).all (fun r=>r.all T.flat)=true∧((l.map f).length+(((l2.map f).drop 0).take (l2.map f).length).length)*n≤140737488355328∧(l.map f).length+(((l2.map f).drop 0).take (l2.map f).length).length≤4611686018427387904)::(fun _=>(l.map f)++(((l2.map f).drop 0).take (l2.map f).length)=(l++l2).map f)::φ):=
 ⟨Ev.c (by simp only[Xb,W9];exact Cu hf h),Ev.c (by simp only[Xb,W9];exact mU),t⟩
theorem RP {c:Code}{e:Exit}{φ:List (Nat→Prop)}(p:List Dc)(a:AllE φ)(h:∀k,LO E f k c D p=some ((e,D'),φ.map fun ψ=>ψ k):=by intro k;kernel_rfl):Round E f c D e D':=VX p φ h a
theorem DP (fn:Func){φ:List (Nat→Prop)}(p:List Dc)(a:AllE φ)(b:E.fns f=some fn:=by rfl)(c:∀C,E.orc C f as=none:=by intro C;rfl)(h:∀k,J2 E.tab E.fns (E.C k) (E.hints f) k f fn as p=some (rs,φ.map fun ψ=>ψ k):=by intro k;kernel_rfl):Does E f as rs:=VY (fn:=fn) p φ b c h a
theorem jq {α:Type}(U:α):∀n:Nat,jY (List.replicate n (some U)) U
 | 0=>trivial
 |n+1=>⟨rfl,jq U n⟩
abbrev Wo (n:Int):Bool×List (T Unit):=(false,[tI n])
abbrev Wp (n:Bool):Bool×List (T Unit):=(false,[tB n])
abbrev Wq (n:Zz):Bool×List (T Unit):=(false,[tS n])
abbrev Wr (n:Int):Sl Unit Unit:=.one (tI n)
abbrev Ws (n:Bool):Sl Unit Unit:=.one (tB n)
abbrev Wt (n:Zz):Sl Unit Unit:=.one (tS n)
abbrev Wu (n:Int):Dc:=.val (.int .i64 n)
abbrev Wv (n:Nat):List Nat:=List.range n
abbrev Ww (n:Nat)(r:List (List (T Unit))):T Unit:=.s .own () n r
abbrev Wx (n:Nat)(r:List (List (T Unit))):T Unit:=.s .far () n r
end Go.Proofs.YtlgddjncnedkgaaGreatDoor.Am
