/- An abstract machine over trees, and that its steps are sound, a part. Conditions: none. -/
import Derived.Calls
import Derived.Tactics
import Derived.Laws.StructEq
import Derived.Laws.Small
import Derived.Laws.Slices
import Derived.Laws.Strings
import Derived.Laws.Pointers
import Derived.Laws.Build
import Derived.Laws.Cells
import Derived.Laws.IdiomCopy
import Derived.Deep.Slices
import Derived.Deep.OwnRows
import Derived.Laws.MakeOwn
import Derived.Laws.Tables
import Derived.Deep.AppendSrc
namespace Go.Proofs.YtgaiiephdjllkaaGreatDoor.Am
set_option linter.unusedVariables false
set_option linter.unusedSimpArgs false
open Go
inductive Kd where
 | own
 | far
 | lent (h c:Nat) (root:Bool)
 deriving DecidableEq
def Kd.unr:Kd→Kd
 | .lent h c _ => .lent h c false
 | k=>k
inductive T (δ:Type) where
 | v (x:Value)
 | any
 | s (k:Kd) (d:δ) (sz:Nat) (rows:List (List (T δ)))
inductive Hp where
 | fn (f:FuncId)
 | arr (offs:List Nat)
inductive Sl (δ β:Type) where
 | any
 | one (t:T δ)
 | agg (ts:List (T δ))
 | box (b:β) (ts:List (T δ))
 | al (h c:Nat) (st:List (Nat×Nat)) (lo len:Nat)
 | pb (h off:Nat)
 | pe (h c:Nat) (st:List (Nat×Nat)) (i off:Nat)
 | im (k:Kd) (b:β) (ts:List (T δ)) (off:Nat)
 | fni (f:FuncId) (caps:List (β×List (T δ)))
 | clo (f:Hp) (hs:List Nat)
 | tup (rs:List (Bool×List (T δ)))
abbrev St (δ β:Type):=List (Sl δ β)
section
variable {δ β : Type}
def T.kd (k:Kd):T δ→T δ
 | .s .own d z r => .s k d z r
 | t=>t
def T.view (k:Kd):T δ→T δ
 | .s _ d z r => .s k d z r
 | t=>t
def T.isOwn:T δ→Bool
 | .s .own _ _ _=>true
 | _=>false
def T.fine:T δ→Bool
 | .s .own _ _ _=>true
 | .s _ _ _ _=>false
 | _=>true
def T.hole:T δ→T δ
 | .s .own _ _ _ => .any
 | t=>t
def T.dead (p:Nat→Nat→Bool):T δ→T δ
 | .s (.lent h c fl) d z r=>if p h c then .any else .s (.lent h c fl) d z r
 | t=>t
def Sl.dead (p:Nat→Nat→Bool) (q:Nat→Nat→Bool→Bool):Sl δ β→Sl δ β
 | .one t => .one (t.dead p)
 | .agg ts => .agg (ts.map (T.dead p))
 | .box b ts => .box b (ts.map (T.dead p))
 | .al h c st lo len=>if q h c (!st.isEmpty) then .any else .al h c st lo len
 | .pe h c st i off=>if q h c (!st.isEmpty) then .any else .pe h c st i off
 | .im k b ts off=>match k with | .lent h c _=>(if p h c then .any else .im k b ts off) | _ => .im k b ts off
 | .tup rs => .tup (rs.map fun r=>(r.1,r.2.map (T.dead p)))
 | x=>x
def Sl.gone (t:Nat):Sl δ β→Sl δ β
 | .pb h off=>if h=t then .any else .pb h off
 | .clo f hs=>if hs.contains t then .any else .clo f hs
 | x=>x
def St.dead (p:Nat→Nat→Bool) (q:Nat→Nat→Bool→Bool) (D:St δ β):St δ β:=D.map (Sl.dead p q)
def atH (t:Nat):Nat→Nat→Bool:=fun h _=>h==t
def co (t u:Nat):Nat→Nat→Bool:=fun h c=>h==t&&c==u
def qH (t:Nat):Nat→Nat→Bool→Bool:=fun h _ _=>h==t
def qHC (t u:Nat):Nat→Nat→Bool→Bool:=fun h c _=>h==t&&c==u
def jL (t u:Nat):Nat→Nat→Bool→Bool:=fun h c deep=>h==t&&c==u&&deep
def qNo:Nat→Nat→Bool→Bool:=fun _ _ _=>false
def aM (t:Nat) (D:St δ β):St δ β:=((D.dead (atH t) (qH t)).map (Sl.gone t)).set t .any
def Sl.isHome:Sl δ β→Bool
 | .one t=>t.isOwn
 | .agg ts=>ts.any T.isOwn
 | .box _ _=>true
 | .tup rs=>rs.any fun r=>r.2.any T.isOwn
 | _=>false
def Sl.clean (t:Nat) (x:Sl δ β):Sl δ β:=(x.dead (atH t) (qH t)).gone t
def aL (D:St δ β) (dst:Option Nat) (x:Sl δ β):St δ β :=
 match dst with
 | none=>D
 | some t=>(aM t D).set t (x.clean t)
def aI:Sl δ β→Option (List (T δ))
 | .one t=>some [t]
 | .agg ts=>some ts
 | .box _ ts=>some ts
 | _=>none
def setCells (cs:List (T δ)):Sl δ β→Sl δ β
 | .one _ => .one (cs.headD .any)
 | .agg _ => .agg cs
 | .box b _ => .box b cs
 | x=>x
def am (D:St δ β) (h c:Nat):Option (T δ):=(D[h]?.bind aI).bind (·[c]?)
def et (D:St δ β) (h c:Nat) (t:T δ):Option (St δ β) :=
 match D[h]? with
 | some x=>(aI x).map fun cs=>D.set h (setCells (cs.set c t) x)
 | none=>none
def getN:T δ→List (Nat×Nat)→Option (T δ)
 | t,[]=>some t
 | .s _ _ _ rows,(i,c)::st=>(rows[i]?.bind (·[c]?)).bind (getN · st)
 | _,_=>none
def eg (f:T δ→Option (T δ)):T δ→List (Nat×Nat)→Option (T δ)
 | t,[]=>f t
 | .s k d z rows,(i,c)::st =>
  (rows[i]?).bind fun row=>(row[c]?).bind fun u=>(eg f u st).map fun u' => .s k d z (rows.set i (row.set c u'))
 | _,_=>none
def cf (D:St δ β) (h c:Nat) (st:List (Nat×Nat)):Option (T δ):=(am D h c).bind (getN · st)
def cE (f:T δ→Option (T δ)) (D:St δ β) (h c:Nat) (st:List (Nat×Nat)):Option (St δ β) :=
 (am D h c).bind fun t=>(eg f t st).bind fun t'=>et D h c t'
end
structure Dec where
 b:Nat
 o:Nat
 cap:Nat
 nil:Bool
 sp:Option Addr:=none
def Dec.addr (d:Dec):Option Addr :=
 match d.sp with
 | some a=>some a
 | none=>if d.nil then none else some ⟨d.b,d.o,none⟩
theorem Dec.addr_none {d:Dec} (h:d.sp=none):d.addr=if d.nil then none else some ⟨d.b,d.o,none⟩:=by
 unfold Dec.addr;rw [h]
abbrev DT:=T Dec
abbrev DSl:=Sl Dec (Nat×Nat)
abbrev DSt:=List DSl
def VT:DT→Value→Prop
 | .v x,y=>y=x∧y.oneCell'=true
 | .any,y=>y.oneCell'=true
 | .s _ d _ rows,y=>y = .slice d.addr rows.length d.cap
theorem VT.one {t:DT} {y:Value} (h:VT t y):y.oneCell'=true:=by
 cases t with
 | v x=>exact h.2
 | any=>exact h
 | s k d z r=>rw [show y=_ from h];rfl
mutual
def bl:DT→List Nat
 | .v _=>[]
 | .any=>[]
 | .s _ d _ rows=>(if d.nil then [] else [d.b])++r9 rows
def vh:List DT→List Nat
 | []=>[]
 | t::r=>bl t++vh r
def r9:List (List DT)→List Nat
 | []=>[]
 | r::rs=>vh r++r9 rs
end
theorem FX (r:List DT):vh r=r.flatMap bl:=by
 induction r with
 | nil=>simp [vh]
 | cons a r ih=>simp [vh,ih]
theorem Ex (r:List (List DT)):r9 r=r.flatMap fun x=>x.flatMap bl:=by
 induction r with
 | nil=>simp [r9]
 | cons a r ih=>simp [r9,ih,FX]
theorem bW (k:Kd) (d:Dec) (z:Nat) (rows:List (List DT)) :
  bl (.s k d z rows)=(if d.nil then [] else [d.b])++rows.flatMap fun x=>x.flatMap bl:=by
 rw [bl,Ex]
inductive Holds (w:World):DT→Prop where
 | v (x:Value):Holds w (.v x)
 | any:Holds w .any
 | e (k:Kd) (d:Dec) (z:Nat):Holds w (.s k d z [])
 | s (k:Kd) (d:Dec) (z:Nat) (rows:List (List DT)) (h:d.nil=false) (hsp:d.sp=none) (c:Array Value) (e:TypeId) (f:Nat×Nat)
   (hb:w.heap[d.b]?=some (.cells c e f)) (hcap:rows.length≤d.cap)
   (hz:∀ (i:Nat) (row:List DT),rows[i]?=some row→row.length=z)
   (hv:∀ (i:Nat) (row:List DT) (j:Nat) (t:DT),rows[i]?=some row→row[j]?=some t→∃ y,c[d.o+i*z+j]?=some y∧VT t y)
   (hh:∀ (i:Nat) (row:List DT) (j:Nat) (t:DT),rows[i]?=some row→row[j]?=some t→Holds w t):Holds w (.s k d z rows)
inductive OwnT (w:World):DT→Prop where
 | v (x:Value):OwnT w (.v x)
 | any:OwnT w .any
 | nil (d:Dec) (z:Nat) (h:d.nil=true) (hsp:d.sp=none) (hc:d.cap=0):OwnT w (.s .own d z [])
 | s (d:Dec) (z:Nat) (rows:List (List DT)) (h:d.nil=false) (hsp:d.sp=none) (c:Array Value) (e:TypeId) (lo hi:Nat)
   (hb:w.heap[d.b]?=some (.cells c e (lo,hi))) (hcap:rows.length≤d.cap) (hroom:d.o+d.cap*z≤c.size)
   (hf:∀ x,d.o≤x→x<d.o+d.cap*z→¬ (lo≤x∧x<hi))
   (hh:∀ (i:Nat) (row:List DT) (j:Nat) (t:DT),rows[i]?=some row→row[j]?=some t→OwnT w t):OwnT w (.s .own d z rows)
theorem OwnT.sp {w:World} {k:Kd} {d:Dec} {z:Nat} {rows:List (List DT)} (h:OwnT w (.s k d z rows)):d.sp=none:=by
 cases h with
 | nil _ _ _ hsp _=>exact hsp
 | s _ _ _ _ hsp=>exact hsp
theorem Holds.sp {w:World} {k:Kd} {d:Dec} {z:Nat} {rows:List (List DT)} (h:Holds w (.s k d z rows)) (hr:rows≠[]):d.sp=none:=by
 cases h with
 | e=>exact absurd rfl hr
 | s _ _ _ _ _ hsp=>exact hsp
theorem iM {k:Kd} {d:Dec} {z:Nat} {rows:List (List DT)} (h:d.nil=false):d.b∈bl (.s k d z rows):=by
 rw [bW,h];simp
theorem iq {k:Kd} {d:Dec} {z:Nat} {rows:List (List DT)} {i j:Nat} {row:List DT} {t:DT} (hi:rows[i]?=some row) (hj:row[j]?=some t) {b:Nat} (hb:b∈bl t) :
  b∈bl (.s k d z rows):=by
 rw [bW]
 simp only [List.mem_append,List.mem_flatMap]
 exact .inr ⟨row,List.mem_of_getElem? hi,t,List.mem_of_getElem? hj,hb⟩
theorem cO {w:World} {b:Nat} {o:Obj} (h:w.heap[b]?=some o):b<w.heap.size:=by
 rcases Nat.lt_or_ge b w.heap.size with g | g
 ·exact g
 ·rw [Array.getElem?_eq_none g] at h;cases h
theorem Holds.frame {w w':World} {t:DT} (h:Holds w t):(∀ b∈bl t,b<w.heap.size→w'.heap[b]?=w.heap[b]?)→Holds w' t:=by
 induction h with
 | v x=>exact fun _ => .v x
 | any=>exact fun _ => .any
 | e k d z=>exact fun _ => .e k d z
 | s k d z rows h hsp c e f hb hcap hz hv hh ih =>
  intro hs
  exact .s k d z rows h hsp c e f (by rw [hs _ (iM h) (cO hb)];exact hb) hcap hz hv fun i row j t hi hj =>
   ih i row j t hi hj fun b hb=>hs b (iq hi hj hb)
theorem OwnT.frame {w w':World} {t:DT} (h:OwnT w t):(∀ b∈bl t,b<w.heap.size→w'.heap[b]?=w.heap[b]?)→OwnT w' t:=by
 induction h with
 | v x=>exact fun _ => .v x
 | any=>exact fun _ => .any
 | nil d z h hsp hc=>exact fun _ => .nil d z h hsp hc
 | s d z rows h hsp c e lo hi hb hcap hroom hf hh ih =>
  intro hs
  exact .s d z rows h hsp c e lo hi (by rw [hs _ (iM h) (cO hb)];exact hb) hcap hroom hf fun i row j t hi hj =>
   ih i row j t hi hj fun b hb=>hs b (iq hi hj hb)
theorem Holds.lt {w:World} {t:DT} (h:Holds w t) (ho:OwnT w t):∀ b∈bl t,b<w.heap.size:=by
 induction h with
 | v x=>intro b hb;simp [bl] at hb
 | any=>intro b hb;simp [bl] at hb
 | e k d z =>
  intro b hb
  rw [bW] at hb
  cases ho with
  | nil d z h hsp hc=>simp [h] at hb
  | s d z rows h hsp c e lo hi hb' =>
   simp [h] at hb;subst hb
   rcases Nat.lt_or_ge d.b w.heap.size with g | g
   ·exact g
   ·rw [Array.getElem?_eq_none g] at hb';cases hb'
 | s k d z rows h hsp c e f hb hcap hz hv hh ih =>
  intro b hb'
  rw [bW,h] at hb'
  simp only [Bool.false_eq_true,if_false,List.mem_append,List.mem_flatMap,List.mem_singleton] at hb'
  rcases hb' with rfl | ⟨row,hr,t,ht,hb'⟩
  ·rcases Nat.lt_or_ge d.b w.heap.size with g | g
   ·exact g
   ·rw [Array.getElem?_eq_none g] at hb;cases hb
  ·obtain ⟨i,hi⟩:=List.getElem?_of_mem hr
   obtain ⟨j,hj⟩:=List.getElem?_of_mem ht
   refine ih i row j t hi hj ?_ b hb'
   cases ho with
   | nil d z h' hsp hc=>simp [h] at h'
   | s d z rows h hsp c e lo hi hb hcap hroom hf hh=>exact hh i row j t ‹_› hj
end Go.Proofs.YtgaiiephdjllkaaGreatDoor.Am
namespace Go.Proofs.YtgaiiephdjllkaaGreatDoor.Am
set_option linter.unusedVariables false
set_option linter.unusedSimpArgs false
open Go
def ownR (t:DT):List Nat:=if t.isOwn then bl t else []
def ownBl:DSl→List Nat
 | .one t=>ownR t
 | .agg ts=>ts.flatMap ownR
 | .box b ts=>b.1::ts.flatMap ownR
 | .tup rs=>rs.flatMap fun r=>r.2.flatMap ownR
 | _=>[]
def ai:DSl→List DT
 | .one t=>[t]
 | .agg ts=>ts
 | .box _ ts=>ts
 | .im _ _ ts _=>ts
 | .fni _ caps=>caps.flatMap (·.2)
 | .tup rs=>rs.flatMap (·.2)
 | _=>[]
def rootsO:DSl→List DT
 | .one t=>[t]
 | .agg ts=>ts
 | .box _ ts=>ts
 | .tup rs=>rs.flatMap (·.2)
 | _=>[]
def VCells (ts:List DT) (cs:List Value):Prop:=ts.length=cs.length∧∀ (i:Nat) (t:DT) (y:Value),ts[i]?=some t→cs[i]?=some y→VT t y
def VPart (r:Bool×List DT) (y:Value):Prop:=if r.1 then ∃ cs:Array Value,y = .agg cs∧VCells r.2 cs.toList else ∃ t,r.2=[t]∧VT t y
def dt (D:DSt) (h c:Nat) (st:List (Nat×Nat)) (d:Dec) (z n:Nat):Prop :=
 ∃ t,am D h c=some t∧t.isOwn=true∧∃ k rows,getN t st=some (.s k d z rows)∧rows.length=n
def zp:Hp→List (Nat×Nat)→Value
 | .fn f,bs => .func (.func f) #[] (bs.map fun b=>Value.pointer (some ⟨b.1,b.2,none⟩)).toArray
 | .arr offs,bs => .agg ((bs.zip offs).map fun p=>Value.pointer (some ⟨p.1.1,p.1.2+p.2,none⟩)).toArray
def VS (D:DSt):DSl→Value→Prop
 | .any,_=>True
 | .one t,y=>VT t y
 | .agg ts,y=>∃ cs:Array Value,y = .agg cs∧VCells ts cs.toList
 | .box b _,y=>y = .pointer (some ⟨b.1,b.2,none⟩)
 | .al h c st lo len,y=>∃ d z n a,dt D h c st d z n∧lo+len≤n∧y = .slice a len (d.cap-lo)∧(lo<d.cap→a=some ⟨d.b,d.o+lo*z,none⟩)∧(lo=0→a=if d.nil then none else some ⟨d.b,d.o,none⟩)
 | .pb h off,y=>∃ b ts,D[h]?=some (.box b ts)∧y = .pointer (some ⟨b.1,b.2+off,none⟩)
 | .pe h c st i off,y=>∃ d z n,dt D h c st d z n∧i<n∧y = .pointer (some ⟨d.b,d.o+i*z+off,none⟩)
 | .im _ b _ off,y=>y = .pointer (some ⟨b.1,b.2+off,none⟩)
 | .fni f caps,y=>y = .func (.func f) #[] (caps.map fun b=>Value.pointer (some ⟨b.1.1,b.1.2,none⟩)).toArray
 | .clo f hs,y=>∃ bs:List (Nat×Nat),bs.length=hs.length∧(∀ (i h:Nat) (b:Nat×Nat),hs[i]?=some h→bs[i]?=some b→∃ ts,D[h]?=some (.box b ts)) ∧
   y=zp f bs
 | .tup rs,y=>∃ vs:Array Value,y = .tuple vs∧rs.length=vs.toList.length∧∀ (i:Nat) (r:Bool×List DT) (v:Value),rs[i]?=some r→vs.toList[i]?=some v→VPart r v
def Lies (w:World) (b:Nat×Nat) (ts:List DT):Prop :=
 ∃ c e f,w.heap[b.1]?=some (.cells c e f)∧∀ (j:Nat) (t:DT),ts[j]?=some t→∃ y,c[b.2+j]?=some y∧VT t y
def Free (w:World) (b:Nat×Nat) (n:Nat):Prop :=
 ∀ c e lo hi,w.heap[b.1]?=some (.cells c e (lo,hi))→∀ x,b.2≤x→x<b.2+n→¬ (lo≤x∧x<hi)
def zc (w:World):DSl→Prop
 | .box b ts=>Lies w b ts∧Free w b ts.length
 | .im _ b ts _=>Lies w b ts
 | .fni _ caps=>∀ p∈caps,Lies w p.1 p.2
 | _=>True
def MemS (w:World) (s:DSl):Prop :=
 (∀ t∈ai s,Holds w t)∧(∀ t∈rootsO s,t.isOwn=true→OwnT w t)∧zc w s
structure Cx where
 w0:World
 X:List Nat
def Cx.may (cx:Cx) (b:Nat):Prop:=cx.w0.heap.size≤b∨b∈cx.X
def Cx.far (cx:Cx) (b:Nat):Prop:=b<cx.w0.heap.size∧b∉cx.X
theorem Cx.far_not {cx:Cx} {b:Nat} (h:cx.far b):¬ cx.may b:=fun h'=>h'.elim (fun g=>by have:=h.1;omega) h.2
structure Cx.Fr (cx:Cx) (w:World):Prop where
 os:w.os=cx.w0.os
 tape:w.tape=cx.w0.tape
 output:w.output=cx.w0.output
 size:cx.w0.heap.size≤w.heap.size
 same:∀ b,cx.far b→w.heap[b]?=cx.w0.heap[b]?
def bg (cx:Cx) (D:DSt):DT→Prop
 | .s .far d z rows=>∀ x∈bl (.s .far d z rows),cx.far x
 | .s (.lent h c fl) d z rows=>∃ t,am D h c=some t∧t.isOwn=true∧(∀ x∈bl (.s (.lent h c fl) d z rows),x∈bl t)∧(fl=true→∃ z' rows',t = .s .own d z' rows'∧rows'.length=rows.length)
 | _=>True
def lj (cx:Cx) (D:DSt) (k:Kd) (b:Nat) (ts:List DT):Prop :=
 match k with
 | .own=>False
 | .far=>cx.far b∧∀ t∈ts,∀ x∈bl t,cx.far x
 | .lent h c _=>∃ t,am D h c=some t∧t.isOwn=true∧b∈bl t∧∀ u∈ts,∀ x∈bl u,x∈bl t
def dm (cx:Cx) (D:DSt):DSl→Prop
 | .im k b ts _=>lj cx D k b.1 ts
 | .fni _ caps=>∀ p∈caps,cx.far p.1.1∧∀ t∈p.2,∀ x∈bl t,cx.far x
 | s=>∀ t∈ai s,bg cx D t
def aZ (D:DSt) (b:Nat):Nat:=(D.flatMap ownBl).count b
def aE (P:List (DT×Value)) (b:Nat):Nat:=(P.flatMap fun p=>ownR p.1).count b
structure Inv (cx:Cx) (D:DSt) (P:List (DT×Value)) (tm:Array Value) (w:World):Prop where
 size:D.length=tm.size
 val:∀ (t:Nat) (s:DSl),D[t]?=some s→VS D s (tm.getD t undef)
 mem:∀ s∈D,MemS w s
 kind:∀ s∈D,dm cx D s
 pend:∀ p∈P,VT p.1 p.2∧Holds w p.1∧(p.1.isOwn=true→OwnT w p.1)∧(p.1.isOwn=false→∀ x∈bl p.1,cx.far x)
 once:∀ b,aZ D b+aE P b≤1
 bnd:∀ b,0<aZ D b+aE P b→cx.may b∧b<w.heap.size
 frame:cx.Fr w
def b9 (t:Nat):DSl→Prop
 | .al h _ _ _ _=>h=t
 | .pe h _ _ _ _=>h=t
 | .pb h _=>h=t
 | .clo _ hs=>t∈hs
 | .im (.lent h _ _) _ _ _=>h=t
 | .one u=>∃ c fl d z r,u = .s (.lent t c fl) d z r
 | .agg ts=>∃ u∈ts,∃ c fl d z r,u = .s (.lent t c fl) d z r
 | .box _ ts=>∃ u∈ts,∃ c fl d z r,u = .s (.lent t c fl) d z r
 | .tup rs=>∃ p∈rs,∃ u∈p.2,∃ c fl d z r,u = .s (.lent t c fl) d z r
 | _=>False
theorem jz {D:DSt} {t h c:Nat} {x:DSl} (hne:h≠t):am (D.set t x) h c=am D h c:=by
 unfold am
 rw [List.getElem?_set_ne (fun e=>hne e.symm)]
theorem uj {D:DSt} {t h c:Nat} {st:List (Nat×Nat)} {x:DSl} {d:Dec} {z n:Nat} (hne:h≠t):dt (D.set t x) h c st d z n↔dt D h c st d z n:=by
 unfold dt
 rw [jz hne]
theorem rZ {D:DSt} {t:Nat} {x s:DSl} {y:Value} (hr:¬ b9 t s) (h:VS D s y):VS (D.set t x) s y:=by
 cases s with
 | al h' c st lo len=>simp only [VS,uj (show h'≠t from hr)] at *;exact h
 | pe h' c st i off=>simp only [VS,uj (show h'≠t from hr)] at *;exact h
 | pb h' off =>
  simp only [VS] at *
  rw [List.getElem?_set_ne (fun e=>hr e.symm)];exact h
 | clo f hs =>
  simp only [VS] at *
  obtain ⟨bs,h1,h2,h3⟩:=h
  refine ⟨bs,h1,fun i h b hi hb => ?_,h3⟩
  have:h≠t:=fun e=>hr (e ▸ List.mem_of_getElem? hi)
  rw [List.getElem?_set_ne (fun e=>this e.symm)]
  exact h2 i h b hi hb
 | _=>exact h
theorem oC {cx:Cx} {D:DSt} {t:Nat} {x:DSl} {u:DT} (hr:∀ c fl d z r,u ≠ .s (.lent t c fl) d z r) (h:bg cx D u):bg cx (D.set t x) u:=by
 cases u with
 | v x=>exact trivial
 | any=>exact trivial
 | s k d z r =>
  cases k with
  | own=>exact trivial
  | far=>exact h
  | lent h' c fl =>
   have:h'≠t:=fun e=>hr c fl d z r (by rw [e])
   simp only [bg,jz this] at *
   exact h
theorem mI {cx:Cx} {D:DSt} {t:Nat} {x s:DSl} (hr:¬ b9 t s) (h:dm cx D s):dm cx (D.set t x) s:=by
 cases s with
 | im k b ts off =>
  cases k with
  | own=>exact h
  | far=>exact h
  | lent h' c fl=>simp only [dm,lj,jz (show h'≠t from hr)] at *;exact h
 | fni f caps=>exact h
 | one u=>exact fun v hv=>by simp [ai] at hv;subst hv;exact oC (fun c fl d z r e=>hr ⟨c,fl,d,z,r,e⟩) (h _ (by simp [ai]))
 | agg ts=>exact fun v hv=>oC (fun c fl d z r e=>hr ⟨v,hv,c,fl,d,z,r,e⟩) (h _ hv)
 | box b ts=>exact fun v hv=>oC (fun c fl d z r e=>hr ⟨v,hv,c,fl,d,z,r,e⟩) (h _ hv)
 | tup rs =>
  refine fun v hv=>oC (fun c fl d z r e => ?_) (h _ hv)
  simp only [ai,List.mem_flatMap] at hv
  obtain ⟨p,hp,hv⟩:=hv
  exact hr ⟨p,hp,v,hv,c,fl,d,z,r,e⟩
 | any=>exact fun v hv=>by simp [ai] at hv
 | al=>exact fun v hv=>by simp [ai] at hv
 | pe=>exact fun v hv=>by simp [ai] at hv
 | pb=>exact fun v hv=>by simp [ai] at hv
 | clo=>exact fun v hv=>by simp [ai] at hv
end Go.Proofs.YtgaiiephdjllkaaGreatDoor.Am
namespace Go.Proofs.YtgaiiephdjllkaaGreatDoor.Am
set_option linter.unusedVariables false
set_option linter.unusedSimpArgs false
open Go
theorem T.dead_own {p:Nat→Nat→Bool} {t:DT} (h:t.isOwn=true):t.dead p=t:=by
 cases t with
 | v x=>rfl
 | any=>rfl
 | s k d z r=>cases k<;>simp_all [T.isOwn,T.dead]
theorem T.dead_cases (p:Nat→Nat→Bool) (t:DT):t.dead p=t∨(t.dead p = .any∧t.isOwn=false):=by
 cases t with
 | v x=>exact .inl rfl
 | any=>exact .inl rfl
 | s k d z r =>
  cases k with
  | own=>exact .inl rfl
  | far=>exact .inl rfl
  | lent h c fl =>
   simp only [T.dead]
   split
   ·exact .inr ⟨rfl,rfl⟩
   ·exact .inl rfl
theorem s7 (p:Nat→Nat→Bool) (t:DT):ownR (t.dead p)=ownR t:=by
 rcases T.dead_cases p t with h | ⟨h,h'⟩
 ·rw [h]
 ·rw [h];simp only [ownR,h'];rfl
theorem tA {p:Nat→Nat→Bool} {t:DT} {y:Value} (h:VT t y):VT (t.dead p) y:=by
 rcases T.dead_cases p t with e | ⟨e,_⟩
 ·rwa [e]
 ·rw [e];exact h.one
theorem C0 {p:Nat→Nat→Bool} {t:DT} {w:World} (h:Holds w t):Holds w (t.dead p):=by
 rcases T.dead_cases p t with e | ⟨e,_⟩
 ·rwa [e]
 ·rw [e];exact .any
theorem pW (p:Nat→Nat→Bool) (q:Nat→Nat→Bool→Bool) (s:DSl):aI (s.dead p q)=(aI s).map (List.map (T.dead p)):=by
 cases s with
 | al h c st lo len=>simp only [Sl.dead];split<;>rfl
 | pe h c st i off=>simp only [Sl.dead];split<;>rfl
 | im k b ts off =>
  simp only [Sl.dead]
  split
  ·split<;>rfl
  ·rfl
 | _=>rfl
theorem BC (p:Nat→Nat→Bool) (q:Nat→Nat→Bool→Bool) (D:DSt) (h c:Nat):am (St.dead p q D) h c=(am D h c).map (T.dead p):=by
 unfold am St.dead
 rw [List.getElem?_map]
 cases D[h]? with
 | none=>rfl
 | some s =>
  simp only [Option.map_some,Option.bind_some,pW]
  cases aI s with
  | none=>rfl
  | some cs=>simp [List.getElem?_map]
theorem eW {p:Nat→Nat→Bool} {q:Nat→Nat→Bool→Bool} {D:DSt} {h c:Nat} {t:DT} (e:am D h c=some t) (ho:t.isOwn=true):am (St.dead p q D) h c=some t:=by
 rw [BC,e,Option.map_some,T.dead_own ho]
theorem AE {p:Nat→Nat→Bool} {q:Nat→Nat→Bool→Bool} {D:DSt} {h c:Nat} {st:List (Nat×Nat)} {d:Dec} {z n:Nat} (e:dt D h c st d z n):dt (St.dead p q D) h c st d z n:=by
 obtain ⟨t,h1,h2,h3⟩:=e
 exact ⟨t,eW h1 h2,h2,h3⟩
theorem zl {p:Nat→Nat→Bool} {q:Nat→Nat→Bool→Bool} {D:DSt} {h:Nat} {b:Nat×Nat} {ts:List DT} (e:D[h]?=some (.box b ts)):(St.dead p q D)[h]?=some (.box b (ts.map (T.dead p))):=by
 unfold St.dead
 rw [List.getElem?_map,e];rfl
theorem pa {p:Nat→Nat→Bool} {ts:List DT} {cs:List Value} (h:VCells ts cs):VCells (ts.map (T.dead p)) cs:=by
 refine ⟨by simpa using h.1,fun i t y hi hy => ?_⟩
 rw [List.getElem?_map,Option.map_eq_some_iff] at hi
 obtain ⟨t',hi,rfl⟩:=hi
 exact tA (h.2 i t' y hi hy)
theorem Er {p:Nat→Nat→Bool} {w:World} {b:Nat×Nat} {ts:List DT} (h:Lies w b ts):Lies w b (ts.map (T.dead p)):=by
 obtain ⟨c,e,f,hb,hv⟩:=h
 refine ⟨c,e,f,hb,fun j t hj => ?_⟩
 rw [List.getElem?_map,Option.map_eq_some_iff] at hj
 obtain ⟨t',hj,rfl⟩:=hj
 obtain ⟨y,h1,h2⟩:=hv j t' hj
 exact ⟨y,h1,tA h2⟩
theorem CB {D D':DSt} (hn:∀ h c st d z n,dt D h c st d z n→dt D' h c st d z n)
  (hb:∀ (h:Nat) (b:Nat×Nat) (ts:List DT),D[h]?=some (Sl.box b ts)→∃ ts':List DT,D'[h]?=some (Sl.box b ts')) {s:DSl} {y:Value} (h:VS D s y):VS D' s y:=by
 cases s with
 | al h' c st lo len =>
  obtain ⟨d,z,n,a,h1,h2⟩:=h
  exact ⟨d,z,n,a,hn _ _ _ _ _ _ h1,h2⟩
 | pe h' c st i off =>
  obtain ⟨d,z,n,h1,h2⟩:=h
  exact ⟨d,z,n,hn _ _ _ _ _ _ h1,h2⟩
 | pb h' off =>
  obtain ⟨b,ts,h1,h2⟩:=h
  obtain ⟨ts',h3⟩:=hb _ _ _ h1
  exact ⟨b,ts',h3,h2⟩
 | clo f hs =>
  obtain ⟨bs,h1,h2,h3⟩:=h
  refine ⟨bs,h1,fun i h b hi hbb => ?_,h3⟩
  obtain ⟨ts,h4⟩:=h2 i h b hi hbb
  exact hb _ _ _ h4
 | _=>exact h
theorem Cz {p:Nat→Nat→Bool} {q:Nat→Nat→Bool→Bool} {D:DSt} {s:DSl} {y:Value} (h:VS D s y):VS (St.dead p q D) (s.dead p q) y:=by
 have h0:VS (St.dead p q D) s y:=CB (fun _ _ _ _ _ _=>AE) (fun _ _ _ e=>⟨_,zl e⟩) h
 cases s with
 | one t=>exact tA h
 | agg ts =>
  obtain ⟨cs,h1,h2⟩:=h
  exact ⟨cs,h1,pa h2⟩
 | al h' c st lo len=>simp only [Sl.dead];split<;>first | trivial | exact h0
 | pe h' c st i off=>simp only [Sl.dead];split<;>first | trivial | exact h0
 | im k b ts off =>
  simp only [Sl.dead]
  split
  ·split<;>first | trivial | exact h0
  ·exact h0
 | tup rs =>
  obtain ⟨vs,h1,h2,h3⟩:=h
  refine ⟨vs,h1,by simpa using h2,fun i r v hi hv => ?_⟩
  rw [List.getElem?_map,Option.map_eq_some_iff] at hi
  obtain ⟨r',hi,rfl⟩:=hi
  have:=h3 i r' v hi hv
  unfold VPart at *
  simp only
  split
  ·rename_i hr
   simp only [hr,if_true] at this
   obtain ⟨cs,g1,g2⟩:=this
   exact ⟨cs,g1,pa g2⟩
  ·rename_i hr
   simp only [hr] at this
   obtain ⟨t,g1,g2⟩:=this
   exact ⟨t.dead p,by rw [g1];rfl,tA g2⟩
 | _=>exact h0
theorem tb {p:Nat→Nat→Bool} {q:Nat→Nat→Bool→Bool} {s:DSl} {u:DT} (h:u∈ai (s.dead p q)) :
  ∃ v∈ai s,u=v∨(u = .any):=by
 have go:∀ (ts:List DT),u∈ts.map (T.dead p)→∃ v∈ts,u=v∨u = .any:=by
  intro ts hu
  obtain ⟨v,hv,rfl⟩:=List.mem_map.1 hu
  rcases T.dead_cases p v with e | ⟨e,_⟩
  ·exact ⟨v,hv,.inl e⟩
  ·exact ⟨v,hv,.inr e⟩
 cases s with
 | one t=>exact go [t] h
 | agg ts=>exact go ts h
 | box b ts=>exact go ts h
 | al h' c st lo len=>simp only [Sl.dead] at h;split at h<;>simp [ai] at h
 | pe h' c st i off=>simp only [Sl.dead] at h;split at h<;>simp [ai] at h
 | im k b ts off =>
  simp only [Sl.dead] at h
  split at h
  ·split at h
   ·simp [ai] at h
   ·exact ⟨u,h,.inl rfl⟩
  ·exact ⟨u,h,.inl rfl⟩
 | tup rs =>
  simp only [Sl.dead,ai,List.mem_flatMap,List.mem_map] at h
  obtain ⟨r,⟨r',hr,rfl⟩,hu⟩:=h
  obtain ⟨v,hv,e⟩:=go r'.2 hu
  exact ⟨v,by simp only [ai,List.mem_flatMap];exact ⟨r',hr,hv⟩,e⟩
 | any=>simp [Sl.dead,ai] at h
 | pb=>simp [Sl.dead,ai] at h
 | clo=>simp [Sl.dead,ai] at h
 | fni f caps=>exact ⟨u,h,.inl rfl⟩
theorem Ck {p:Nat→Nat→Bool} {q:Nat→Nat→Bool→Bool} {s:DSl} {u:DT} (h:u∈rootsO (s.dead p q)) :
  ∃ v∈rootsO s,u=v∨(u = .any):=by
 have go:∀ (ts:List DT),u∈ts.map (T.dead p)→∃ v∈ts,u=v∨u = .any:=by
  intro ts hu
  obtain ⟨v,hv,rfl⟩:=List.mem_map.1 hu
  rcases T.dead_cases p v with e | ⟨e,_⟩
  ·exact ⟨v,hv,.inl e⟩
  ·exact ⟨v,hv,.inr e⟩
 cases s with
 | one t=>exact go [t] h
 | agg ts=>exact go ts h
 | box b ts=>exact go ts h
 | al h' c st lo len=>simp only [Sl.dead] at h;split at h<;>simp [rootsO] at h
 | pe h' c st i off=>simp only [Sl.dead] at h;split at h<;>simp [rootsO] at h
 | im k b ts off =>
  simp only [Sl.dead] at h
  split at h
  ·split at h<;>simp [rootsO] at h
  ·simp [rootsO] at h
 | tup rs =>
  simp only [Sl.dead,rootsO,List.mem_flatMap,List.mem_map] at h
  obtain ⟨r,⟨r',hr,rfl⟩,hu⟩:=h
  obtain ⟨v,hv,e⟩:=go r'.2 hu
  exact ⟨v,by simp only [rootsO,List.mem_flatMap];exact ⟨r',hr,hv⟩,e⟩
 | any=>simp [Sl.dead,rootsO] at h
 | pb=>simp [Sl.dead,rootsO] at h
 | clo=>simp [Sl.dead,rootsO] at h
 | fni f caps=>simp [Sl.dead,rootsO] at h
theorem xu {p:Nat→Nat→Bool} {q:Nat→Nat→Bool→Bool} {s:DSl} {w:World} (h:MemS w s):MemS w (s.dead p q):=by
 obtain ⟨h1,h2,h3⟩:=h
 refine ⟨fun u hu => ?_,fun u hu ho => ?_,?_⟩
 ·obtain ⟨v,hv,rfl | rfl⟩:=tb hu
  ·exact h1 _ hv
  ·exact .any
 ·obtain ⟨v,hv,rfl | rfl⟩:=Ck hu
  ·exact h2 _ hv ho
  ·cases ho
 ·cases s with
  | box b ts=>exact ⟨Er h3.1,by simpa using h3.2⟩
  | al h' c st lo len=>simp only [Sl.dead];split<;>trivial
  | pe h' c st i off=>simp only [Sl.dead];split<;>trivial
  | im k b ts off =>
   simp only [Sl.dead]
   split
   ·split
    ·trivial
    ·exact h3
   ·exact h3
  | _=>exact h3
theorem u5 {cx:Cx} {D D':DSt} (hc:∀ h c t,am D h c=some t→t.isOwn=true→am D' h c=some t) {u:DT} (h:bg cx D u):bg cx D' u:=by
 cases u with
 | v x=>trivial
 | any=>trivial
 | s k d z r =>
  cases k with
  | own=>trivial
  | far=>exact h
  | lent h' c fl =>
   obtain ⟨t,h1,h2,h3⟩:=h
   exact ⟨t,hc _ _ _ h1 h2,h2,h3⟩
theorem Br {cx:Cx} {D D':DSt} (hc:∀ h c t,am D h c=some t→t.isOwn=true→am D' h c=some t) {k:Kd} {b:Nat} {ts:List DT} (h:lj cx D k b ts):lj cx D' k b ts:=by
 cases k with
 | own=>exact h
 | far=>exact h
 | lent h' c fl =>
  obtain ⟨t,h1,h2,h3⟩:=h
  exact ⟨t,hc _ _ _ h1 h2,h2,h3⟩
theorem u4 {cx:Cx} {D D':DSt} (hc:∀ h c t,am D h c=some t→t.isOwn=true→am D' h c=some t) {s:DSl} (h:dm cx D s):dm cx D' s:=by
 cases s with
 | im k b ts off=>exact Br hc h
 | fni f caps=>exact h
 | _=>exact fun t ht=>u5 hc (h t ht)
theorem u2 {cx:Cx} {p:Nat→Nat→Bool} {q:Nat→Nat→Bool→Bool} {D:DSt} {s:DSl} (h:dm cx D s):dm cx (St.dead p q D) (s.dead p q):=by
 have h0:=u4 (D':=St.dead p q D) (fun h c t e ho=>eW e ho) h
 have go:(∀ t∈ai s,bg cx (St.dead p q D) t)→∀ t∈ai (s.dead p q),bg cx (St.dead p q D) t:=by
  intro g t ht
  obtain ⟨v,hv,rfl | rfl⟩:=tb ht
  ·exact g _ hv
  ·trivial
 cases s with
 | one t=>exact go h0
 | agg t=>exact go h0
 | box b t=>exact go h0
 | tup t=>exact go h0
 | im k b ts off =>
  simp only [Sl.dead]
  split
  ·split
   ·exact fun t ht=>by simp [ai] at ht
   ·exact h0
  ·exact h0
 | fni f caps=>exact h0
 | al h' c st lo len=>simp only [Sl.dead];split<;>exact fun t ht=>by simp [ai] at ht
 | pe h' c st i off=>simp only [Sl.dead];split<;>exact fun t ht=>by simp [ai] at ht
 | any=>exact h0
 | pb=>exact h0
 | clo=>exact h0
theorem qX (p:Nat→Nat→Bool) (q:Nat→Nat→Bool→Bool) (s:DSl):ownBl (s.dead p q)=ownBl s:=by
 have go:∀ ts:List DT,(ts.map (T.dead p)).flatMap ownR=ts.flatMap ownR:=by
  intro ts
  induction ts with
  | nil=>rfl
  | cons t ts ih=>rw [List.map_cons,List.flatMap_cons,List.flatMap_cons,ih,s7]
 cases s with
 | one t=>exact s7 p t
 | agg ts=>exact go ts
 | box b ts=>simp only [Sl.dead,ownBl,go]
 | al h' c st lo len=>simp only [Sl.dead];split<;>rfl
 | pe h' c st i off=>simp only [Sl.dead];split<;>rfl
 | im k b ts off =>
  simp only [Sl.dead]
  split
  ·split<;>rfl
  ·rfl
 | tup rs =>
  simp only [Sl.dead,ownBl]
  induction rs with
  | nil=>rfl
  | cons r rs ih=>simp only [List.map_cons,List.flatMap_cons,go,ih]
 | _=>rfl
theorem jj (p:Nat→Nat→Bool) (q:Nat→Nat→Bool→Bool) (D:DSt):(St.dead p q D).flatMap ownBl=D.flatMap ownBl:=by
 unfold St.dead
 induction D with
 | nil=>rfl
 | cons s D ih=>simp only [List.map_cons,List.flatMap_cons,qX,ih]
theorem Inv.dead {cx:Cx} {D:DSt} {P:List (DT×Value)} {tm:Array Value} {w:World} (I:Inv cx D P tm w) (p:Nat→Nat→Bool) (q:Nat→Nat→Bool→Bool) :
  Inv cx (St.dead p q D) P tm w where
 size:=by have:=I.size;simpa [St.dead] using this
 val t s hs:=by
  unfold St.dead at hs
  rw [List.getElem?_map,Option.map_eq_some_iff] at hs
  obtain ⟨s',hs,rfl⟩:=hs
  exact Cz (I.val t s' hs)
 mem s hs:=by
  obtain ⟨s',hs',rfl⟩:=List.mem_map.1 hs
  exact xu (I.mem s' hs')
 kind s hs:=by
  obtain ⟨s',hs',rfl⟩:=List.mem_map.1 hs
  exact u2 (I.kind s' hs')
 pend:=I.pend
 once:=by unfold aZ;rw [jj];exact I.once
 bnd:=by unfold aZ;rw [jj];exact I.bnd
 frame:=I.frame
end Go.Proofs.YtgaiiephdjllkaaGreatDoor.Am
namespace Go.Proofs.YtgaiiephdjllkaaGreatDoor.Am
set_option linter.unusedVariables false
set_option linter.unusedSimpArgs false
open Go
theorem pX (t:Nat) (s:DSl):aI (s.gone t)=aI s:=by
 cases s with
 | pb h off=>simp only [Sl.gone];split<;>rfl
 | clo f hs=>simp only [Sl.gone];split<;>rfl
 | _=>rfl
theorem tV (t:Nat) (D:DSt) (h c:Nat):am (D.map (Sl.gone t)) h c=am D h c:=by
 unfold am
 rw [List.getElem?_map]
 cases D[h]? with
 | none=>rfl
 | some s=>simp only [Option.map_some,Option.bind_some,pX]
theorem tc (t:Nat) (s:DSl):ai (s.gone t)=ai s:=by
 cases s with
 | pb h off=>simp only [Sl.gone];split<;>rfl
 | clo f hs=>simp only [Sl.gone];split<;>rfl
 | _=>rfl
theorem uo (t:Nat) (s:DSl):rootsO (s.gone t)=rootsO s:=by
 cases s with
 | pb h off=>simp only [Sl.gone];split<;>rfl
 | clo f hs=>simp only [Sl.gone];split<;>rfl
 | _=>rfl
theorem lN (t:Nat) (s:DSl):ownBl (s.gone t)=ownBl s:=by
 cases s with
 | pb h off=>simp only [Sl.gone];split<;>rfl
 | clo f hs=>simp only [Sl.gone];split<;>rfl
 | _=>rfl
theorem CA {D:DSt} {t:Nat} {s:DSl} {y:Value} (h:VS D s y):VS (D.map (Sl.gone t)) (s.gone t) y:=by
 have h0:VS (D.map (Sl.gone t)) s y:=CB (D:=D)
  (fun h c st d z n e=>by unfold dt at *;rw [tV];exact e)
  (fun h b ts e=>⟨ts,by rw [List.getElem?_map,e];rfl⟩) h
 cases s with
 | pb h off=>simp only [Sl.gone];split<;>first | trivial | exact h0
 | clo f hs=>simp only [Sl.gone];split<;>first | trivial | exact h0
 | _=>exact h0
theorem xv {t:Nat} {w:World} {s:DSl} (h:zc w s):zc w (s.gone t):=by
 cases s with
 | pb h off=>simp only [Sl.gone];split<;>trivial
 | clo f hs=>simp only [Sl.gone];split<;>trivial
 | _=>exact h
theorem u3 {cx:Cx} {D:DSt} {t:Nat} {s:DSl} (h:dm cx D s):dm cx (D.map (Sl.gone t)) (s.gone t):=by
 have h0:=u4 (D':=D.map (Sl.gone t)) (fun h c u e _=>by rw [tV];exact e) h
 cases s with
 | pb h off=>simp only [Sl.gone];split<;>exact fun t ht=>by simp [ai] at ht
 | clo f hs=>simp only [Sl.gone];split<;>exact fun t ht=>by simp [ai] at ht
 | _=>exact h0
theorem Inv.gone {cx:Cx} {D:DSt} {P:List (DT×Value)} {tm:Array Value} {w:World} (I:Inv cx D P tm w) (t:Nat):Inv cx (D.map (Sl.gone t)) P tm w where
 size:=by have:=I.size;simpa using this
 val u s hs:=by
  rw [List.getElem?_map,Option.map_eq_some_iff] at hs
  obtain ⟨s',hs,rfl⟩:=hs
  exact CA (I.val u s' hs)
 mem s hs:=by
  obtain ⟨s',hs',rfl⟩:=List.mem_map.1 hs
  have:=I.mem s' hs'
  exact ⟨by rw [tc];exact this.1,by rw [uo];exact this.2.1,xv this.2.2⟩
 kind s hs:=by
  obtain ⟨s',hs',rfl⟩:=List.mem_map.1 hs
  exact u3 (I.kind s' hs')
 pend:=I.pend
 once:=by
  have:(D.map (Sl.gone t)).flatMap ownBl=D.flatMap ownBl:=by
   rw [List.flatMap_map];exact congrArg (fun f=>List.flatMap f D) (funext (lN t))
  unfold aZ;rw [this];exact I.once
 bnd:=by
  have:(D.map (Sl.gone t)).flatMap ownBl=D.flatMap ownBl:=by
   rw [List.flatMap_map];exact congrArg (fun f=>List.flatMap f D) (funext (lN t))
  unfold aZ;rw [this];exact I.bnd
 frame:=I.frame
def cd (t:Nat) (D:DSt):DSt:=(St.dead (atH t) (qH t) D).map (Sl.gone t)
theorem zu (t:Nat) (u:DT) (c:Nat) (fl:Bool) (d:Dec) (z:Nat) (r:List (List DT)):u.dead (atH t) ≠ .s (.lent t c fl) d z r:=by
 cases u with
 | v x=>simp [T.dead]
 | any=>simp [T.dead]
 | s k d' z' r' =>
  cases k with
  | own=>simp [T.dead]
  | far=>simp [T.dead]
  | lent h c' fl =>
   simp only [T.dead,atH]
   by_cases e:h=t
   ·subst e;simp
   ·simp [e]
theorem lP {t:Nat} {D:DSt}:∀ s∈cd t D,¬ b9 t s:=by
 intro s hs hr
 unfold cd St.dead at hs
 rw [List.map_map] at hs
 obtain ⟨u,hu,rfl⟩:=List.mem_map.1 hs
 have go:∀ ts:List DT,¬ ∃ u∈ts.map (T.dead (atH t)),∃ c fl d z r,u = .s (.lent t c fl) d z r:=by
  rintro ts ⟨u,hu,c,fl,d,z,r,e⟩
  obtain ⟨v,hv,rfl⟩:=List.mem_map.1 hu
  exact zu t v c fl d z r e
 cases u with
 | any=>exact hr
 | one v=>obtain ⟨c,fl,d,z,r,e⟩:=hr;exact zu t v c fl d z r e
 | agg ts=>exact go ts hr
 | box b ts=>exact go ts hr
 | al h c st lo len =>
  simp only [Function.comp,Sl.dead,qH] at hr
  by_cases e:h=t
  ·subst e;simp [Sl.gone,b9] at hr
  ·simp [e,Sl.gone,b9] at hr
 | pe h c st i off =>
  simp only [Function.comp,Sl.dead,qH] at hr
  by_cases e:h=t
  ·subst e;simp [Sl.gone,b9] at hr
  ·simp [e,Sl.gone,b9] at hr
 | pb h off =>
  simp only [Function.comp,Sl.dead,Sl.gone] at hr
  by_cases e:h=t
  ·simp [e,b9] at hr
  ·simp [e,b9] at hr
 | clo f hs' =>
  simp only [Function.comp,Sl.dead,Sl.gone] at hr
  by_cases e:t∈hs'
  ·simp [e,b9] at hr
  ·simp [e,b9] at hr
 | im k b ts off =>
  cases k with
  | own=>exact hr
  | far=>exact hr
  | lent h c fl =>
   simp only [Function.comp,Sl.dead,atH] at hr
   by_cases e:h=t
   ·subst e;simp [Sl.gone,b9] at hr
   ·simp [e,Sl.gone,b9] at hr
 | fni f caps=>exact hr
 | tup rs =>
  obtain ⟨p,hp,u,hu,c,fl,d,z,r,e⟩:=hr
  obtain ⟨p',hp',rfl⟩:=List.mem_map.1 hp
  exact go p'.2 ⟨u,hu,c,fl,d,z,r,e⟩
theorem Inv.quiet {cx:Cx} {D:DSt} {P:List (DT×Value)} {tm:Array Value} {w:World} (I:Inv cx D P tm w) (t:Nat):Inv cx (cd t D) P tm w:=(I.dead _ _).gone t
theorem bj {α:Type} (f:α→List Nat) (x:α) (b:Nat):∀ (l:List α) (t:Nat) (y:α),l[t]?=some y →
  (f y).count b+((l.set t x).flatMap f).count b=(f x).count b+(l.flatMap f).count b
 | [],t,y,h=>by simp at h
 | a::l,0,y,h=>by
  simp at h;subst h
  simp only [List.set_cons_zero,List.flatMap_cons,List.count_append];omega
 | a::l,t+1,y,h=>by
  simp only [List.getElem?_cons_succ] at h
  have ih:=bj f x b l t y h
  simp only [List.set_cons_succ,List.flatMap_cons,List.count_append];omega
theorem fq (P Q:List (DT×Value)) (b:Nat):aE (P++Q) b=aE P b+aE Q b:=by
 unfold aE;rw [List.flatMap_append,List.count_append]
theorem bZ (b:Nat):aE [] b=0:=rfl
theorem hJ (p:DT×Value) (P:List (DT×Value)) (b:Nat):aE (p::P) b=(ownR p.1).count b+aE P b:=by
 unfold aE;rw [List.flatMap_cons,List.count_append]
theorem Inv.fillF {cx:Cx} {D:DSt} {P Q:List (DT×Value)} {tm:Array Value} {w:World} (I:Inv cx D (P++Q) tm w) {t:Nat} {s₀ s:DSl} {y:Value} (F:Nat→Nat)
  (hF:∀ b,0<F b→F b≤1∧aZ D b+aE (P++Q) b=0∧cx.may b∧b<w.heap.size)
  (hs₀:D[t]?=some s₀) (hq:∀ s∈D,¬ b9 t s) (hr:¬ b9 t s) (hv:VS D s y) (hm:MemS w s) (hk:dm cx D s)
  (ho:∀ b,(ownBl s).count b≤aE P b+F b):Inv cx (D.set t s) Q (tm.setIfInBounds t y) w:=by
 have hlt:t<D.length:=by
  rcases Nat.lt_or_ge t D.length with g | g
  ·exact g
  ·rw [List.getElem?_eq_none g] at hs₀;cases hs₀
 have hall:∀ b,aZ (D.set t s) b+aE Q b≤aZ D b+aE (P++Q) b+F b:=by
  intro b
  have h1:=bj ownBl s b D t s₀ hs₀
  have h2:=ho b
  rw [fq]
  unfold aZ
  omega
 refine ⟨by have:=I.size;simpa using this,fun u s' hs => ?_,fun s' hs => ?_,fun s' hs => ?_,fun p hp=>I.pend p (List.mem_append.2 (.inr hp)),
  fun b => ?_,fun b hb => ?_,I.frame⟩
 ·by_cases e:u=t
  ·subst e
   rw [List.getElem?_set_self hlt] at hs
   cases hs
   have:u<tm.size:=by rw [← I.size];exact hlt
   simp only [Array.getD_eq_getD_getElem?,Array.getElem?_setIfInBounds_self,this,if_true,Option.getD_some]
   exact rZ hr hv
  ·rw [List.getElem?_set_ne (fun h=>e h.symm)] at hs
   have h1:=I.val u s' hs
   simp only [Array.getD_eq_getD_getElem?] at h1 ⊢
   rw [Array.getElem?_setIfInBounds_ne (fun h=>e h.symm)]
   exact rZ (hq s' (List.mem_of_getElem? hs)) h1
 ·rcases List.mem_or_eq_of_mem_set hs with h | rfl
  ·exact I.mem s' h
  ·exact hm
 ·rcases List.mem_or_eq_of_mem_set hs with h | rfl
  ·exact mI (hq s' h) (I.kind s' h)
  ·exact mI hr hk
 ·have h1:=hall b
  have h2:=I.once b
  rcases Nat.eq_zero_or_pos (F b) with g | g
  ·omega
  ·have:=hF b g;omega
 ·have h1:=hall b
  rcases Nat.eq_zero_or_pos (F b) with g | g
  ·exact I.bnd b (by omega)
  ·exact (hF b g).2.2
theorem Inv.fill {cx:Cx} {D:DSt} {P Q:List (DT×Value)} {tm:Array Value} {w:World} (I:Inv cx D (P++Q) tm w) {t:Nat} {s₀ s:DSl} {y:Value}
  (hs₀:D[t]?=some s₀) (hq:∀ s∈D,¬ b9 t s) (hr:¬ b9 t s) (hv:VS D s y) (hm:MemS w s) (hk:dm cx D s)
  (ho:∀ b,(ownBl s).count b≤aE P b):Inv cx (D.set t s) Q (tm.setIfInBounds t y) w :=
 I.fillF (fun _=>0) (fun b h=>absurd h (Nat.lt_irrefl 0)) hs₀ hq hr hv hm hk ho
theorem Inv.take {cx:Cx} {D:DSt} {P:List (DT×Value)} {tm:Array Value} {w:World} (I:Inv cx D P tm w) {t:Nat} {s₀:DSl} {cs:List (DT×Value)}
  (hs₀:D[t]?=some s₀) (hcs:∀ p∈cs,p.1∈rootsO s₀∧p.1∈ai s₀∧VT p.1 p.2) (hl:∀ p∈cs,∀ h c fl d z r,p.1 ≠ .s (.lent h c fl) d z r)
  (ho:∀ b,aE cs b≤(ownBl s₀).count b) (hni:∀ k b ts off,s₀ ≠ .im k b ts off) (hnf:∀ f caps,s₀ ≠ .fni f caps):Inv cx (aM t D) (cs++P) tm w:=by
 have I':=I.quiet t
 have hs:(cd t D)[t]?=some ((s₀.dead (atH t) (qH t)).gone t):=by
  unfold cd St.dead;rw [List.getElem?_map,List.getElem?_map,hs₀];rfl
 have e:aM t D=(cd t D).set t .any:=rfl
 have hlt:t<(cd t D).length:=by
  rcases Nat.lt_or_ge t (cd t D).length with g | g
  ·exact g
  ·rw [List.getElem?_eq_none g] at hs;cases hs
 have hob:ownBl ((s₀.dead (atH t) (qH t)).gone t)=ownBl s₀:=by rw [lN,qX]
 have hall:∀ b,aZ (aM t D) b+aE (cs++P) b≤aZ (cd t D) b+aE P b:=by
  intro b
  have h1:=bj ownBl (Sl.any:DSl) b (cd t D) t _ hs
  have h2:=ho b
  rw [fq,e]
  rw [hob] at h1
  unfold aZ
  have h0:(ownBl (Sl.any:DSl)).count b=0:=rfl
  omega
 have hsm:s₀∈D:=List.mem_of_getElem? hs₀
 refine ⟨by have:=I'.size;rw [e];simpa using this,fun u s' hs' => ?_,fun s' hs' => ?_,fun s' hs' => ?_,fun p hp => ?_,
  fun b=>Nat.le_trans (hall b) (I'.once b),fun b hb=>I'.bnd b (Nat.lt_of_lt_of_le hb (hall b)),I.frame⟩
 ·rw [e] at hs' ⊢
  by_cases eu:u=t
  ·subst eu
   rw [List.getElem?_set_self hlt] at hs'
   cases hs'
   trivial
  ·rw [List.getElem?_set_ne (fun h=>eu h.symm)] at hs'
   exact rZ (lP s' (List.mem_of_getElem? hs')) (I'.val u s' hs')
 ·rw [e] at hs'
  rcases List.mem_or_eq_of_mem_set hs' with h | rfl
  ·exact I'.mem s' h
  ·exact ⟨fun t ht=>by simp [ai] at ht,fun t ht=>by simp [rootsO] at ht,trivial⟩
 ·rw [e] at hs' ⊢
  rcases List.mem_or_eq_of_mem_set hs' with h | rfl
  ·exact mI (lP s' h) (I'.kind s' h)
  ·exact fun t ht=>by simp [ai] at ht
 ·rcases List.mem_append.1 hp with h | h
  ·obtain ⟨h1',h1,h2⟩:=hcs p h
   have hm:=I.mem s₀ hsm
   refine ⟨h2,hm.1 _ h1,fun ho=>hm.2.1 _ h1' ho,fun hno => ?_⟩
   have hk:bg cx D p.1:=by
    have:=I.kind s₀ hsm
    cases s₀ with
    | im k b ts off=>exact absurd rfl (hni k b ts off)
    | fni f caps=>exact absurd rfl (hnf f caps)
    | _=>exact this _ h1
   have hl':=hl p h
   generalize p.1=u at *
   cases u with
   | v x=>intro x hx;simp [bl] at hx
   | any=>intro x hx;simp [bl] at hx
   | s k d z r =>
    cases k with
    | own=>simp [T.isOwn] at hno
    | far=>exact hk
    | lent h' c' fl=>exact absurd rfl (hl' h' c' fl d z r)
  ·exact I.pend p h
end Go.Proofs.YtgaiiephdjllkaaGreatDoor.Am
namespace Go.Proofs.YtgaiiephdjllkaaGreatDoor.Am
set_option linter.unusedVariables false
set_option linter.unusedSimpArgs false
open Go
theorem Cj {t:Nat} {s:DSl}:¬ b9 t (s.clean t):=by
 have h:s.clean t∈cd t [s]:=by simp [cd,St.dead,Sl.clean]
 exact lP _ h
theorem Dw (t:Nat) (D:DSt) (s:DSl):(aM t D).set t s=(cd t D).set t s:=by
 unfold aM cd;rw [List.set_set]
theorem FR {D:DSt} {t:Nat} {s:DSl} {y:Value} (h:VS D s y):VS (cd t D) (s.clean t) y:=CA (Cz h)
theorem Es {t:Nat} {w:World} {s:DSl} (h:MemS w s):MemS w (s.gone t) :=
 ⟨by rw [tc];exact h.1,by rw [uo];exact h.2.1,xv h.2.2⟩
theorem C2 {t:Nat} {w:World} {s:DSl} (h:MemS w s):MemS w (s.clean t):=Es (xu h)
theorem Bt {cx:Cx} {D:DSt} {t:Nat} {s:DSl} (h:dm cx D s):dm cx (cd t D) (s.clean t):=u3 (u2 h)
theorem ui (t:Nat) (s:DSl):ownBl (s.clean t)=ownBl s:=by unfold Sl.clean;rw [lN,qX]
theorem vj (t:Nat) (D:DSt) (b:Nat):aZ (cd t D) b=aZ D b:=by
 unfold aZ cd
 have:((St.dead (atH t) (qH t) D).map (Sl.gone t)).flatMap ownBl=D.flatMap ownBl:=by
  rw [List.flatMap_map, ← jj (atH t) (qH t) D]
  exact congrArg (fun f=>List.flatMap f (St.dead (atH t) (qH t) D)) (funext (lN t))
 rw [this]
theorem Inv.putF {cx:Cx} {D:DSt} {P Q:List (DT×Value)} {tm:Array Value} {w:World} (I:Inv cx D (P++Q) tm w) {t:Nat} {s:DSl} {y:Value} (F:Nat→Nat)
  (hF:∀ b,0<F b→F b≤1∧aZ D b+aE (P++Q) b=0∧cx.may b∧b<w.heap.size)
  (ht:t<D.length) (hv:VS D s y) (hm:MemS w s) (hk:dm cx D s) (ho:∀ b,(ownBl s).count b≤aE P b+F b) :
  Inv cx (aL D (some t) s) Q (tm.setIfInBounds t y) w:=by
 show Inv cx ((aM t D).set t (s.clean t)) Q _ w
 rw [Dw]
 have hl:t<(cd t D).length:=by simpa [cd,St.dead] using ht
 exact (I.quiet t).fillF F (fun b hb=>by rw [vj];exact hF b hb) (List.getElem?_eq_getElem hl) lP Cj (FR hv) (C2 hm) (Bt hk) (fun b=>by rw [ui];exact ho b)
theorem Inv.put {cx:Cx} {D:DSt} {P Q:List (DT×Value)} {tm:Array Value} {w:World} (I:Inv cx D (P++Q) tm w) {t:Nat} {s:DSl} {y:Value}
  (ht:t<D.length) (hv:VS D s y) (hm:MemS w s) (hk:dm cx D s) (ho:∀ b,(ownBl s).count b≤aE P b) :
  Inv cx (aL D (some t) s) Q (tm.setIfInBounds t y) w :=
 I.putF (fun _=>0) (fun b h=>absurd h (Nat.lt_irrefl 0)) ht hv hm hk ho
theorem Inv.drewn {cx:Cx} {D:DSt} {P:List (DT×Value)} {tm:Array Value} {w:World} (I:Inv cx D P tm w):Inv cx D P tm w.drew where
 size:=I.size
 val:=I.val
 mem s hs:=by
  obtain ⟨h1,h2,h3⟩:=I.mem s hs
  refine ⟨fun t ht=>(h1 t ht).frame fun _ _ _=>rfl,fun t ht ho=>(h2 t ht ho).frame fun _ _ _=>rfl,?_⟩
  cases s<;>exact h3
 kind:=I.kind
 pend p hp:=by
  obtain ⟨h1,h2,h3,h4⟩:=I.pend p hp
  exact ⟨h1,h2.frame fun _ _ _=>rfl,fun ho=>(h3 ho).frame fun _ _ _=>rfl,h4⟩
 once:=I.once
 bnd:=I.bnd
 frame:=⟨I.frame.os,I.frame.tape,I.frame.output,I.frame.size,I.frame.same⟩
theorem C6 {k:Kd} {t:DT} {y:Value}:VT (t.kd k) y↔VT t y:=by
 cases t with
 | v x=>exact .rfl
 | any=>exact .rfl
 | s k' d z r=>cases k'<;>exact .rfl
theorem oB {w:World} {k k':Kd} {d:Dec} {z:Nat} {r:List (List DT)} (h:Holds w (.s k d z r)):Holds w (.s k' d z r):=by
 cases h with
 | e=>exact .e _ _ _
 | s _ _ _ _ h hsp c e f hb hcap hz hv hh=>exact .s _ _ _ _ h hsp c e f hb hcap hz hv hh
theorem za {w:World} {k:Kd} {t:DT} (h:Holds w t):Holds w (t.kd k):=by
 cases t with
 | v x=>exact h
 | any=>exact h
 | s k' d z r =>
  cases k' with
  | own=>exact oB h
  | _=>exact h
theorem m7 (h c:Nat) (fl:Bool) (t:DT):(t.kd (.lent h c fl)).isOwn=false:=by
 cases t with
 | v x=>rfl
 | any=>rfl
 | s k' d z r=>cases k'<;>rfl
theorem dI {t:DT} (h:t.isOwn=false):ownR t=[]:=by unfold ownR;rw [h];rfl
structure Tells (cx:Cx) (D:DSt) (w:World) (s:DSl) (y:Value):Prop where
 val:VS D s y
 mem:MemS w s
 kind:dm cx D s
 noown:ownBl s=[]
section
variable {δ β : Type}
def nR (D:St δ β) (t:Nat):Option (Sl δ β) :=
 match D[t]? with
 | some (.one (.s .own _ _ rows))=>some (.al t 0 [] 0 rows.length)
 | some (.one u)=>some (.one u)
 | some (.agg ts)=>some (.agg (ts.mapIdx fun c u=>u.kd (.lent t c true)))
 | some (.box _ _)=>some (.pb t 0)
 | some (.al h c st lo len)=>some (.al h c st lo len)
 | some (.pb h off)=>some (.pb h off)
 | some (.pe h c st i off)=>some (.pe h c st i off)
 | some (.im k b ts off)=>some (.im k b ts off)
 | some (.fni f caps)=>some (.fni f caps)
 | some (.clo f hs)=>some (.clo f hs)
 | _=>none
def CD:Value→Bool
 | .slice _ _ _=>false
 | x=>x.oneCell'
def wG (nil:δ):Value→Option (Sl δ β)
 | .slice none 0 0=>some (.one (.s .own nil 0 []))
 | .pointer none=>some .any
 | x=>if CD x then some (.one (.v x)) else none
def opd (nil:δ) (D:St δ β):Operand→Option (Sl δ β)
 | .tmp t=>nR D t
 | .const x=>wG nil x
 | .func f=>some (.fni f [])
 | .global _=>none
end
def nilD:Dec:=⟨0,0,0,true,none⟩
theorem Inv.copy {cx:Cx} {D:DSt} {P:List (DT×Value)} {tm:Array Value} {w:World} (I:Inv cx D P tm w) {t:Nat} {s:DSl} (h:nR D t=some s) :
  Tells cx D w s (tm.getD t undef):=by
 unfold nR at h
 cases e:D[t]? with
 | none=>rw [e] at h;cases h
 | some s₀ =>
  have hv:=I.val t s₀ e
  have hm:=I.mem s₀ (List.mem_of_getElem? e)
  have hk:=I.kind s₀ (List.mem_of_getElem? e)
  rw [e] at h
  cases s₀ with
  | any=>cases h
  | tup rs=>cases h
  | one u =>
   cases u with
   | v x=>cases h;exact ⟨hv,hm,hk,rfl⟩
   | any=>cases h;exact ⟨hv,hm,hk,rfl⟩
   | s k d z rows =>
    cases k with
    | far=>cases h;exact ⟨hv,hm,hk,rfl⟩
    | lent h' c' fl=>cases h;exact ⟨hv,hm,hk,rfl⟩
    | own =>
     cases h
     refine ⟨?_,⟨fun t ht=>by simp [ai] at ht,fun t ht=>by simp [rootsO] at ht,trivial⟩,fun t ht=>by simp [ai] at ht,rfl⟩
     refine ⟨d,z,rows.length,_,⟨.s .own d z rows,by simp [am,e,aI],rfl,.own,rows,rfl,rfl⟩,by omega,hv,?_,fun _=>Dec.addr_none (hm.2.1 (.s .own d z rows) (by simp [rootsO]) rfl).sp⟩
     intro hc
     have ho:=hm.2.1 (.s .own d z rows) (by simp [rootsO]) rfl
     have hs:=ho.sp
     cases ho with
     | nil d z h hsp' hc'=>omega
     | s d z rows h'=>simp [Dec.addr,h',hs]
  | agg ts =>
   cases h
   refine ⟨?_,⟨?_,?_,trivial⟩,?_,?_⟩
   ·obtain ⟨cs,h1,h2,h3⟩:=hv
    refine ⟨cs,h1,by simpa using h2,fun i u y hi hy => ?_⟩
    rw [List.getElem?_mapIdx,Option.map_eq_some_iff] at hi
    obtain ⟨u',hi,rfl⟩:=hi
    exact C6.2 (h3 i u' y hi hy)
   ·intro u hu
    simp only [ai,List.mem_mapIdx] at hu
    obtain ⟨i,hi,rfl⟩:=hu
    exact za (hm.1 _ (List.getElem_mem hi))
   ·intro u hu ho
    simp only [rootsO,List.mem_mapIdx] at hu
    obtain ⟨i,hi,rfl⟩:=hu
    rw [m7] at ho;cases ho
   ·intro u hu
    simp only [ai,List.mem_mapIdx] at hu
    obtain ⟨i,hi,rfl⟩:=hu
    have hk':=hk (ts[i]) (List.getElem_mem hi)
    have hc:am D t i=some ts[i]:=by simp [am,e,aI]
    generalize ts[i]=u at *
    cases u with
    | v x=>trivial
    | any=>trivial
    | s k d z r =>
     cases k with
     | own=>exact ⟨_,hc,rfl,fun x hx=>(by simp only [bW] at hx ⊢;exact hx),fun _=>⟨_,_,rfl,rfl⟩⟩
     | far=>exact hk'
     | lent h c fl=>exact hk'
   ·simp only [ownBl,List.flatMap_eq_nil_iff,List.mem_mapIdx]
    rintro u ⟨i,hi,rfl⟩
    exact dI (m7 _ _ _ _)
  | box b ts =>
   cases h
   refine ⟨⟨b,ts,e,by rw [hv];rfl⟩,⟨fun t ht=>by simp [ai] at ht,fun t ht=>by simp [rootsO] at ht,trivial⟩,fun t ht=>by simp [ai] at ht,rfl⟩
  | al h' c st lo len=>cases h;exact ⟨hv,hm,hk,rfl⟩
  | pb h' off=>cases h;exact ⟨hv,hm,hk,rfl⟩
  | pe h' c st i off=>cases h;exact ⟨hv,hm,hk,rfl⟩
  | im k b ts off=>cases h;exact ⟨hv,hm,hk,rfl⟩
  | fni f caps=>cases h;exact ⟨hv,hm,hk,rfl⟩
  | clo f hs=>cases h;exact ⟨hv,hm,hk,rfl⟩
theorem Tells.one_v {cx:Cx} {D:DSt} {w:World} (x:Value) (hx:x.oneCell'=true):Tells cx D w (.one (.v x)) x :=
 ⟨⟨rfl,hx⟩,⟨fun t ht=>by simp [ai] at ht;subst ht;exact .v x,(fun t ht ho=>by simp [rootsO] at ht;subst ht;cases ho),trivial⟩,
  fun t ht=>by simp [ai] at ht;subst ht;trivial,rfl⟩
theorem Inv.opd {cx:Cx} {D:DSt} {P:List (DT×Value)} {a:Act} {w:World} (I:Inv cx D P a.tmps w) {x:Operand} {s:DSl} (h:opd nilD D x=some s) :
  Tells cx D w s (a.eval x):=by
 cases x with
 | tmp t=>exact I.copy h
 | global g=>cases h
 | func f =>
  simp only [Am.opd] at h
  cases h
  exact ⟨rfl,⟨fun t ht=>by simp [ai] at ht,fun t ht=>by simp [rootsO] at ht,fun p hp=>by simp at hp⟩,fun p hp=>by simp at hp,rfl⟩
 | const v =>
  simp only [Am.opd] at h
  unfold wG at h
  split at h
  ·cases h
   exact ⟨rfl,⟨fun t ht=>by simp [ai] at ht;subst ht;exact .e _ _ _,(fun t ht ho=>by simp [rootsO] at ht;subst ht;exact .nil _ _ rfl rfl rfl),trivial⟩,
    fun t ht=>by simp [ai] at ht;subst ht;trivial,by simp [ownBl,ownR,T.isOwn,bW,nilD]⟩
  ·cases h
   exact ⟨trivial,⟨fun t ht=>by simp [ai] at ht,fun t ht=>by simp [rootsO] at ht,trivial⟩,fun t ht=>by simp [ai] at ht,rfl⟩
  ·split at h
   ·rename_i hc
    cases h;exact .one_v _ (by
     unfold CD at hc
     split at hc
     ·cases hc
     ·exact hc)
   ·cases h
end Go.Proofs.YtgaiiephdjllkaaGreatDoor.Am
namespace Go.Proofs.YtgaiiephdjllkaaGreatDoor.Am
set_option linter.unusedVariables false
set_option linter.unusedSimpArgs false
open Go
structure Grew (w w':World):Prop where
 os:w'.os=w.os
 tape:w'.tape=w.tape
 output:w'.output=w.output
 size:w.heap.size≤w'.heap.size
 same:∀ b,b<w.heap.size→w'.heap[b]?=w.heap[b]?
theorem Grew.alloc (w:World) (o:Obj):Grew w (w.alloc o) :=
 ⟨rfl,rfl,rfl,by simp,fun b hb=>by show (w.heap.push o)[b]?=_;rw [Array.getElem?_push,if_neg (by omega)]⟩
theorem Grew.drew (w:World):Grew w w.drew:=⟨rfl,rfl,rfl,Nat.le_refl _,fun _ _=>rfl⟩
theorem Grew.refl (w:World):Grew w w:=⟨rfl,rfl,rfl,Nat.le_refl _,fun _ _=>rfl⟩
theorem Grew.trans {a b c:World} (h:Grew a b) (k:Grew b c):Grew a c :=
 ⟨k.os.trans h.os,k.tape.trans h.tape,k.output.trans h.output,Nat.le_trans h.size k.size,
  fun i hi=>(k.same i (Nat.lt_of_lt_of_le hi h.size)).trans (h.same i hi)⟩
theorem Lies.grew {w w':World} (g:Grew w w') {b:Nat×Nat} {ts:List DT} (h:Lies w b ts):Lies w' b ts:=by
 obtain ⟨c,e,f,hb,hv⟩:=h
 exact ⟨c,e,f,by rw [g.same _ (cO hb)];exact hb,hv⟩
theorem Free.grew {w w':World} (g:Grew w w') {b:Nat×Nat} {n:Nat} (hl:b.1<w.heap.size) (h:Free w b n):Free w' b n:=by
 intro c e lo hi hb
 rw [g.same _ hl] at hb
 exact h c e lo hi hb
theorem Lies.lt {w:World} {b:Nat×Nat} {ts:List DT} (h:Lies w b ts):b.1<w.heap.size:=by
 obtain ⟨c,e,f,hb,hv⟩:=h
 exact cO hb
theorem MemS.grew {w w':World} (g:Grew w w') {s:DSl} (h:MemS w s):MemS w' s:=by
 obtain ⟨h1,h2,h3⟩:=h
 refine ⟨fun t ht=>(h1 t ht).frame fun b _ hb=>g.same b hb,fun t ht ho=>(h2 t ht ho).frame fun b _ hb=>g.same b hb,?_⟩
 cases s with
 | box b ts=>exact ⟨h3.1.grew g,h3.2.grew g h3.1.lt⟩
 | im k b ts off=>exact Lies.grew g h3
 | fni f caps=>exact fun p hp=>(h3 p hp).grew g
 | _=>trivial
theorem Cx.Fr.grew {cx:Cx} {w w':World} (g:Grew w w') (h:cx.Fr w):cx.Fr w' :=
 ⟨g.os.trans h.os,g.tape.trans h.tape,g.output.trans h.output,Nat.le_trans h.size g.size,
  fun b hb=>(g.same b (Nat.lt_of_lt_of_le hb.1 h.size)).trans (h.same b hb)⟩
theorem Inv.grew {cx:Cx} {D:DSt} {P:List (DT×Value)} {tm:Array Value} {w w':World} (I:Inv cx D P tm w) (g:Grew w w'):Inv cx D P tm w' where
 size:=I.size
 val:=I.val
 mem s hs:=(I.mem s hs).grew g
 kind:=I.kind
 pend p hp:=by
  obtain ⟨h1,h2,h3,h4⟩:=I.pend p hp
  exact ⟨h1,h2.frame fun b _ hb=>g.same b hb,fun ho=>(h3 ho).frame fun b _ hb=>g.same b hb,h4⟩
 once:=I.once
 bnd b hb:=⟨(I.bnd b hb).1,Nat.lt_of_lt_of_le (I.bnd b hb).2 g.size⟩
 frame:=I.frame.grew g
theorem Tells.grew {cx:Cx} {D:DSt} {w w':World} {s:DSl} {y:Value} (h:Tells cx D w s y) (g:Grew w w'):Tells cx D w' s y :=
 ⟨h.val,h.mem.grew g,h.kind,h.noown⟩
end Go.Proofs.YtgaiiephdjllkaaGreatDoor.Am
namespace Go.Proofs.YtgaiiephdjllkaaGreatDoor.Am
set_option linter.unusedVariables false
set_option linter.unusedSimpArgs false
open Go
inductive Sh where
 | bool
 | int (k:IntKind)
 | str
 | slice (e:Nat)
 | struct (offs:List Nat)
 | ptr (e:Nat)
 | fn
 | other
 deriving DecidableEq
def Sh.agg:Sh→Bool
 | .struct _=>true
 | _=>false
structure TI where
 size:Nat
 bytes:Nat
 zero:List (T Unit)
 sh:Sh
def zT (n:Nat):Value→T Unit
 | .slice none 0 0 => .s .own () n []
 | x => .v x
def HT (P:Program):Nat→TypeId→List Nat
 | 0,_=>[]
 | k+1,t =>
  match P.underlying t with
  | some (.slice e)=>[match P.info? e with | some i=>i.size | none=>0]
  | some (.struct fs)=>fs.toList.flatMap fun f=>HT P k f.type
  | _=>[0]
def cR (P:Program) (t:TypeId) (ys:List Value):List (T Unit):=ys.mapIdx fun j y=>zT ((HT P 6 t).getD j 0) y
def rg (P:Program):TypeDesc→Sh
 | .bool => .bool
 | .int k => .int k
 | .string => .str
 | .slice e => .slice e
 | .pointer e => .ptr e
 | .func _ _ _ => .fn
 | .struct fs=>if fs.all (fun f=>(P.info? f.type).any fun i=>i.size != 0) then .struct (fs.toList.map (·.offset)) else .other
 | _ => .other
def jv (P:Program) (t:TypeId):Option TI :=
 (P.info? t).bind fun i=>(P.underlying t).bind fun d=>i.zero.bind fun z =>
  if z.cells.toList.all (·.oneCell') then some { size:=i.size,bytes:=i.bytes,zero:=cR P t z.cells.toList,sh:=rg P d } else none
structure Tab where
 ts:List (Nat×TI)
 eqs:List (Nat×List (Nat×Nat)):=[]
 pls:List (Nat×List (Nat×Nat)):=[]
 io:List (Nat×Nat):=[]
 ars:List (Nat×Nat):=[]
 addr:List (Nat×List Nat):=[]
 gv:List Nat:=[]
 pw:List (Nat×List Nat):=[]
def mj (P:Program) (t:TypeId):Option (List (Nat×Nat)) :=
 match P.underlying t with
 | some (.struct fs)=>fs.toList.mapM (fun f=>(P.info? f.type).map fun i=>(f.offset,i.size))
 | _=>none
def De (P:Program) (t:TypeId):Option (List (Nat×Nat)) :=
 match P.underlying t with
 | some (.struct fs) => if P.stoodInHeld t = false ∧ P.eqGuardType P.depth t = false ∧ fs.all (fun f => (f.name == "_") == false) = true then some (fs.toList.map fun f => (f.offset, f.type)) else none
 | _=>none
def FU (P:Program) (t:TypeId):Option Nat :=
 match P.underlying t with
 | some (.array n e)=>match P.underlying e,P.info? e with | some (.pointer _),some i=>if i.size=1 then some n else none | _,_=>none
 | _=>none
def y9 (P:Program) (f:FuncId) (offs:List Nat):Prop :=
 ∀ (b:Nat×Nat) (w:World),Calls P f #[.pointer (some ⟨b.1,b.2,none⟩)] w fun e w'=>e = .returned (.agg (offs.map fun o=>Value.pointer (some ⟨b.1,b.2+o,none⟩)).toArray)∧Grew w w'
structure a8 (P:Program) (tab:Tab):Prop where
 ts:∀ p∈tab.ts,jv P p.1=some p.2
 eqs:∀ p∈tab.eqs,De P p.1=some p.2
 pls:∀ p∈tab.pls,mj P p.1=some p.2
 mixed:P.follows .mixedOrders=true
 ars:∀ p∈tab.ars,FU P p.1=some p.2
 addr:∀ p∈tab.addr,y9 P p.1 p.2
def Tab.ti (tab:Tab) (t:Nat):Option TI:=tab.ts.lookup t
def Tab.pl (tab:Tab) (t:Nat):Option (List (Nat×Nat)):=tab.pls.lookup t
def Tab.eq (tab:Tab) (t:Nat):Option (List (Nat×Nat)):=tab.eqs.lookup t
theorem fd {α:Type}:∀ {l:List (Nat×α)} {t:Nat} {x:α},l.lookup t=some x→(t,x)∈l
 | [],_,_,h=>by simp at h
 | (u,y)::l,t,x,h=>by
  rw [List.lookup_cons] at h
  split at h
  ·rename_i e
   cases h
   have:t=u:=by simpa using e
   subst this;exact List.mem_cons_self
  ·exact List.mem_cons_of_mem _ (fd h)
variable {P : Program} {tab : Tab}
theorem Tab.ok (h:a8 P tab) {t:Nat} {ti:TI} (e:tab.ti t=some ti):jv P t=some ti:=h.ts _ (fd e)
theorem Tab.okPl (h:a8 P tab) {t:Nat} {l:List (Nat×Nat)} (e:tab.pl t=some l):mj P t=some l:=h.pls _ (fd e)
theorem Tab.okEq (h:a8 P tab) {t:Nat} {l:List (Nat×Nat)} (e:tab.eq t=some l):De P t=some l:=h.eqs _ (fd e)
section
variable {t : Nat} {ti : TI}
theorem ey (h:jv P t=some ti):∃ i d z,P.info? t=some i∧P.underlying t=some d∧i.zero=some z∧i.size=ti.size∧i.bytes=ti.bytes∧ti.zero=cR P t z.cells.toList∧ti.sh=rg P d∧z.cells.toList.all (·.oneCell')=true:=by
 unfold jv at h
 cases hi:P.info? t with
 | none=>simp [hi] at h
 | some i =>
  cases hd:P.underlying t with
  | none=>simp [hi,hd] at h
  | some d =>
   cases hz:i.zero with
   | none=>simp [hi,hd,hz] at h
   | some z =>
    simp only [hi,hd,hz,Option.bind_some] at h
    split at h
    ·rename_i ha
     cases h
     exact ⟨i,d,z,rfl,rfl,hz,rfl,rfl,rfl,rfl,ha⟩
    ·cases h
theorem iS (h:jv P t=some ti) (w:World):(sizeOf t).run P w = .ok ti.size w:=by
 obtain ⟨i,d,z,h1,h2,h3,h4,h5,h6,h7,h8⟩:=ey h
 simp [sizeOf,typeInfo,h1,h4]
theorem ef (h:jv P t=some ti) {e:Nat} (hs:ti.sh = .slice e):P.underlying t=some (.slice e):=by
 obtain ⟨i,d,z,h1,h2,h3,h4,h5,h6,h7,h8⟩:=ey h
 rw [h2]
 rw [hs] at h7
 cases d<;>simp only [rg] at h7<;>first | (cases h7;done) | (split at h7<;>cases h7;done) | (cases h7;rfl)
theorem CZ (h:jv P t=some ti) (hs:ti.sh = .bool):P.underlying t=some .bool:=by
 obtain ⟨i,d,z,h1,h2,h3,h4,h5,h6,h7,h8⟩:=ey h
 rw [h2]
 rw [hs] at h7
 cases d<;>simp only [rg] at h7<;>first | (cases h7;done) | (split at h7<;>cases h7;done) | rfl
theorem qm (h:jv P t=some ti) (hs:ti.sh = .str):P.underlying t=some .string:=by
 obtain ⟨i,d,z,h1,h2,h3,h4,h5,h6,h7,h8⟩:=ey h
 rw [h2]
 rw [hs] at h7
 cases d<;>simp only [rg] at h7<;>first | (cases h7;done) | (split at h7<;>cases h7;done) | rfl
theorem wr (h:jv P t=some ti) {k:IntKind} (hs:ti.sh = .int k):P.underlying t=some (.int k):=by
 obtain ⟨i,d,z,h1,h2,h3,h4,h5,h6,h7,h8⟩:=ey h
 rw [h2]
 rw [hs] at h7
 cases d<;>simp only [rg] at h7<;>first | (cases h7;done) | (split at h7<;>cases h7;done) | (cases h7;rfl)
theorem FM (h:jv P t=some ti) {offs:List Nat} (hs:ti.sh = .struct offs) :
  ∃ fs,P.underlying t=some (.struct fs)∧offs=fs.toList.map (·.offset)∧∀ f∈fs,∃ i,P.info? f.type=some i∧i.size≠0:=by
 obtain ⟨i,d,z,h1,h2,h3,h4,h5,h6,h7,h8⟩:=ey h
 rw [h2]
 rw [hs] at h7
 cases d<;>simp only [rg] at h7<;>first | (cases h7;done) | skip
 split at h7
 ·rename_i fs hall
  cases h7
  refine ⟨fs,rfl,rfl,fun f hf => ?_⟩
  rw [Array.all_eq_true_iff_forall_mem] at hall
  have:=hall f hf
  cases hi:P.info? f.type with
  | none=>simp [hi] at this
  | some i=>simp [hi] at this;exact ⟨i,rfl,this⟩
 ·cases h7
theorem Bp (h:jv P t=some ti) (ho:ti.sh ≠ .other) (w:World):(isAgg t).run P w = .ok ti.sh.agg w:=by
 obtain ⟨i,d,z,h1,h2,h3,h4,h5,h6,h7,h8⟩:=ey h
 rw [h7] at ho ⊢
 unfold isAgg
 cases d<;>simp [run_underlying h2,rg,Sh.agg]<;>simp [rg] at ho
 split<;>simp_all
theorem qn (h:jv P t=some ti) (w:World):∃ z,(zeroValue t).run P w = .ok z w∧ti.zero=cR P t z.cells.toList∧z.cells.toList.all (·.oneCell')=true:=by
 obtain ⟨i,d,z,h1,h2,h3,h4,h5,h6,h7,h8⟩:=ey h
 exact ⟨z,by simp [zeroValue,typeInfo,h1,h3],h6,h8⟩
end
end Go.Proofs.YtgaiiephdjllkaaGreatDoor.Am
namespace Go.Proofs.YtgaiiephdjllkaaGreatDoor.Am
set_option linter.unusedVariables false
set_option linter.unusedSimpArgs false
open Go
def DN (op:BinOp) (k:IntKind) (a b:Int):Option Value :=
 match op with
 | .add=>some (.int k (k.wrap (a+b)))
 | .sub=>some (.int k (k.wrap (a-b)))
 | .mul=>some (.int k (k.wrap (a*b)))
 | .quo=>if b=0 then none else some (.int k (k.wrap (a.tdiv b)))
 | .rem=>if b=0 then none else some (.int k (a.tmod b))
 | .and=>some (.int k (k.wrap (BitVec.ofInt k.bits a &&& BitVec.ofInt k.bits b).toNat))
 | .or=>some (.int k (k.wrap (BitVec.ofInt k.bits a ||| BitVec.ofInt k.bits b).toNat))
 | .xor=>some (.int k (k.wrap (BitVec.ofInt k.bits a ^^^ BitVec.ofInt k.bits b).toNat))
 | .eql=>some (.bool (a==b))
 | .neq=>some (.bool (a != b))
 | .lss=>some (.bool (decide (a<b)))
 | .leq=>some (.bool (decide (a≤b)))
 | .gtr=>some (.bool (decide (a>b)))
 | .geq=>some (.bool (decide (a≥b)))
 | _=>none
def shV (op:BinOp) (k:IntKind) (a b:Int):Option Value :=
 if b<0 then none else
 match op with
 | .shl=>some (.int k (k.wrap (a*2 ^ (min b.toNat k.bits))))
 | .shr=>some (.int k (a.fdiv (2 ^ (min b.toNat k.bits))))
 | _=>none
def maxStr:Nat:=4611686018427387904
def El (op:BinOp) (a b:ByteArray):Option Value :=
 match op with
 | .add=>if a.size+b.size≤maxStr then some (.string (a++b)) else none
 | .eql=>some (.bool (a.toList==b.toList))
 | .neq=>some (.bool (!(a.toList==b.toList)))
 | .lss=>some (.bool (Op.bytesLess a.toList b.toList))
 | .leq=>some (.bool (Op.bytesLess a.toList b.toList || a.toList==b.toList))
 | .gtr=>some (.bool (!(Op.bytesLess a.toList b.toList || a.toList==b.toList)))
 | .geq=>some (.bool (!Op.bytesLess a.toList b.toList))
 | _=>none
def r8 (tab:Tab) (op:BinOp) (t:Nat) (x y:Value):Option Value :=
 match x,y with
 | .int k a,.int k' b =>
  match op with
  | .shl=>shV .shl k a b
  | .shr=>shV .shr k a b
  | op=>if k=k' then DN op k a b else none
 | .string a,.string b=>El op a b
 | .bool a,.bool b =>
  match tab.ti t with
  | some ti=>if ti.sh = .bool then (match op with | .eql=>some (.bool (a==b)) | .neq=>some (.bool (!(a==b))) | _=>none) else none
  | none=>none
 | _,_=>none
variable {P : Program} {tab : Tab}
theorem Gq {op:BinOp} {k:IntKind} {a b:Int} {z:Value} (t:TypeId) (w:World) (h:DN op k a b=some z) :
  (binOp op t (.int k a) (.int k b)).run P w = .ok z w:=by
 unfold DN at h
 cases op<;>simp only [Option.some.injEq,reduceCtorEq] at h<;>try (subst h;simp [binOp,Op.intArith,Op.intBits,Op.intCmp];done)
 ·split at h
  ·cases h
  ·rename_i hb;cases h;simp [binOp,Op.intDiv,hb]
 ·split at h
  ·cases h
  ·rename_i hb;cases h;simp [binOp,Op.intDiv,hb]
theorem CV {op:BinOp} (hop:op = .shl∨op = .shr) {k k':IntKind} {a b:Int} {z:Value} (t:TypeId) (w:World) (h:shV op k a b=some z) :
  (binOp op t (.int k a) (.int k' b)).run P w = .ok z w:=by
 unfold shV at h
 split at h
 ·cases h
 ·rename_i hb
  rcases hop with rfl | rfl<;>simp only [Option.some.injEq] at h<;>subst h<;>simp [binOp,Op.shift,hb]
theorem GC {op:BinOp} {a b:ByteArray} {z:Value} (t:TypeId) (w:World) (h:El op a b=some z) :
  (binOp op t (.string a) (.string b)).run P w = .ok z w:=by
 unfold El at h
 cases op<;>simp only [Option.some.injEq,reduceCtorEq] at h<;>try (subst h;simp [binOp,Op.stringOp];done)
 split at h
 ·rename_i hs
  cases h
  simp [binOp,Op.stringOp]
  unfold maxStr at hs;omega
 ·cases h
theorem FW (ok:a8 P tab) {op:BinOp} {t:TypeId} {x y z:Value} (xo yo:Operand) (w:World) (h:r8 tab op t x y=some z) :
  (do eqGuard op t xo yo x y;binOp op t x y:Sem Value).run P w = .ok z w:=by
 unfold r8 at h
 split at h
 ·rename_i k a k' b
  rw [eqGuard_at_int]
  split at h
  ·simpa using CV (.inl rfl) t w h
  ·simpa using CV (.inr rfl) t w h
  ·split at h
   ·rename_i hk;subst hk;simpa using Gq t w h
   ·cases h
 ·rw [eqGuard_at_string];simpa using GC t w h
 ·rename_i a b
  rw [eqGuard_at_bool]
  split at h
  ·rename_i ti hti
   split at h
   ·rename_i hs
    have hb:=CZ (Tab.ok ok hti) hs
    split at h
    ·cases h;simp [run_eql_bool w t a b hb]
    ·cases h;simp [run_neq_bool w t a b hb]
    ·cases h
   ·cases h
  ·cases h
 ·cases h
theorem FV {op:BinOp} {t:TypeId} {x y z:Value} (h:r8 tab op t x y=some z):z.oneCell'=true:=by
 unfold r8 DN shV El at h
 repeat' split at h
 all_goals first | (cases h;rfl) | (cases h;done)
def yY:Sh→Value→Value→Option Bool
 | .bool,.bool a,.bool b=>some (a==b)
 | .int k,.int k1 a,.int k2 b=>if k1=k∧k2=k then some (a==b) else none
 | .str,.string a,.string b=>some (a.toList==b.toList)
 | _,_,_=>none
def gJ {δ:Type} (tab:Tab) (us vs:List (T δ)):List (Nat×Nat)→Option Bool
 | []=>some true
 | (off,ft)::r =>
  match tab.ti ft,us[off]?,vs[off]? with
  | some ti,some (.v a),some (.v b)=>if ti.size=1∧ti.sh.agg=false then (yY ti.sh a b).bind fun q=>(gJ tab us vs r).map fun s=>q&&s else none
  | _,_,_=>none
def eqS {δ:Type} (tab:Tab) (op:BinOp) (t:Nat) (us vs:List (T δ)):Option Value :=
 match op with
 | .eql=>((tab.eq t).bind (gJ tab us vs)).map fun b => .bool b
 | .neq=>((tab.eq t).bind (gJ tab us vs)).map fun b => .bool (!b)
 | _=>none
theorem EI {t:Nat} {ti:TI} (h:jv P t=some ti) {a b:Value} {q:Bool} (e:yY ti.sh a b=some q) (d:Nat) (w:World):(Op.equalIn (d+1) t a b).run P w = .ok q w:=by
 unfold yY at e
 split at e
 ·rename_i hs
  cases e
  exact run_equalIn_bool' w d t _ _ (CZ h hs)
 ·rename_i k k1 a k2 b hs
  split at e
  ·rename_i hk
   obtain ⟨rfl,rfl⟩:=hk
   cases e
   exact run_equalIn_int w d t _ _ _ _ (wr h hs)
  ·cases e
 ·rename_i hs
  cases e
  exact run_equalIn_string w d t _ _ (qm h hs)
 ·cases e
theorem tX (ok:a8 P tab) {us vs:List DT} {xs ys:Array Value} (hx:∀ (i:Nat) (u:DT) (y:Value),us[i]?=some u→xs[i]?=some y→VT u y) (hy:∀ (i:Nat) (u:DT) (y:Value),vs[i]?=some u→ys[i]?=some y→VT u y)
  (lx : us.length = xs.size) (ly : vs.length = ys.size) (d : Nat) (w : World) : ∀ (fs : List Field) {b : Bool}, (∀ f ∈ fs, (f.name == "_") = false) → gJ tab us vs (fs.map fun f => (f.offset, f.type)) = some b →
   (Op.eqFields (d+1) xs ys fs).run P w = .ok b w
 | [],b,hn,e=>by cases e;simp [Op.eqFields]
 | f::fs,b,hn,e=>by
  simp only [List.map_cons,gJ] at e
  split at e
  case h_2=>cases e
  rename_i ti a c hti hu hv
  split at e
  case isFalse=>cases e
  rename_i hsz
  simp only [Option.bind_eq_some_iff,Option.map_eq_some_iff] at e
  obtain ⟨q,h1,s,h2,rfl⟩:=e
  have hok:=Tab.ok ok hti
  have hx1:xs[f.offset]?=some a:=by
   have hlt:f.offset<us.length:=by
    rcases Nat.lt_or_ge f.offset us.length with g | g
    ·exact g
    ·rw [List.getElem?_eq_none g] at hu;cases hu
   have:=hx _ _ _ hu (Array.getElem?_eq_getElem (by omega))
   rw [Array.getElem?_eq_getElem (by omega),this.1]
  have hy1:ys[f.offset]?=some c:=by
   have hlt:f.offset<vs.length:=by
    rcases Nat.lt_or_ge f.offset vs.length with g | g
    ·exact g
    ·rw [List.getElem?_eq_none g] at hv;cases hv
   have:=hy _ _ _ hv (Array.getElem?_eq_getElem (by omega))
   rw [Array.getElem?_eq_getElem (by omega),this.1]
  have hs:=iS hok w
  have ho:ti.sh ≠ .other:=by intro h;rw [h] at h1;simp [yY] at h1
  have ha:=Bp hok ho w
  rw [hsz.2] at ha
  have hp1:(part f.type xs f.offset).run P w = .ok a w:=by
   simp [part,hs,ha,hx1,hsz.1]
  have hp2:(part f.type ys f.offset).run P w = .ok c w:=by
   simp [part,hs,ha,hy1,hsz.1]
  have hn' : f.name ≠ "_" := by simpa using hn f (by simp)
  have ih:=tX ok hx hy lx ly d w fs (fun g hg=>hn g (by simp [hg])) h2
  simp only [Op.eqFields,if_pos hn',Sem.run_bind,hp1,hp2,EI hok h1 d w,Result.andThen_ok]
  cases q
  ·simp
  ·simpa using ih
end Go.Proofs.YtgaiiephdjllkaaGreatDoor.Am
namespace Go.Proofs.YtgaiiephdjllkaaGreatDoor.Am
set_option linter.unusedVariables false
set_option linter.unusedSimpArgs false
open Go
theorem Holds.getN {w:World}:∀ (st:List (Nat×Nat)) {t n:DT},Holds w t→getN t st=some n→Holds w n
 | [],t,n,h,hg=>by cases hg;exact h
 | (i,c)::st,t,n,h,hg=>by
  cases t with
  | v x=>simp [Am.getN] at hg
  | any=>simp [Am.getN] at hg
  | s k d z rows =>
   simp only [Am.getN,Option.bind_eq_some_iff] at hg
   obtain ⟨u,⟨row,hi,hj⟩,hg⟩:=hg
   cases h with
   | e=>simp at hi
   | s _ _ _ _ h hsp c' e' f hb hcap hz hv hh=>exact Holds.getN st (hh i row c u hi hj) hg
theorem OwnT.getN {w:World}:∀ (st:List (Nat×Nat)) {t n:DT},OwnT w t→getN t st=some n→OwnT w n
 | [],t,n,h,hg=>by cases hg;exact h
 | (i,c)::st,t,n,h,hg=>by
  cases t with
  | v x=>simp [Am.getN] at hg
  | any=>simp [Am.getN] at hg
  | s k d z rows =>
   simp only [Am.getN,Option.bind_eq_some_iff] at hg
   obtain ⟨u,⟨row,hi,hj⟩,hg⟩:=hg
   cases h with
   | nil=>simp at hi
   | s _ _ _ h hsp c' e' lo hi' hb hcap hroom hf hh=>exact OwnT.getN st (hh i row c u hi hj) hg
theorem pI:∀ (st:List (Nat×Nat)) {t n:DT},getN t st=some n→∀ b∈bl n,b∈bl t
 | [],t,n,e=>by cases e;exact fun b hb=>hb
 | (i,c)::st,t,n,e=>by
  cases t with
  | v x=>simp [getN] at e
  | any=>simp [getN] at e
  | s k d z rows =>
   simp only [getN,Option.bind_eq_some_iff] at e
   obtain ⟨u,⟨row,hi,hj⟩,e⟩:=e
   exact fun b hb=>iq hi hj (pI st e b hb)
theorem nI {w:World} {b:Nat} {c:Array Value} {e:TypeId} {f:Nat×Nat} (h:w.heap[b]?=some (.cells c e f)) (o:Nat):w.cell? ⟨b,o,none⟩=c[o]?:=by
 simp [World.cell?,h]
section
variable {δ β : Type}
def boxRange (D:St δ β) (h o n:Nat):Option (List (T δ)) :=
 match D[h]? with
 | some (.box _ ts)=>if o+n≤ts.length then some ((ts.drop o).take n) else none
 | _=>none
def rowRange (D:St δ β) (h c:Nat) (st:List (Nat×Nat)) (i o n:Nat):Option (List (T δ)) :=
 match am D h c with
 | some t=>if t.isOwn then
   match getN t st with
   | some (.s _ _ _ rows)=>(rows[i]?).bind fun row=>if o+n≤row.length then some ((row.drop o).take n) else none
   | _=>none
  else none
 | none=>none
end
theorem bD {D:DSt} {h c:Nat} {t:DT} (e:am D h c=some t):∃ s,D[h]?=some s∧s∈D∧t∈ai s∧t∈rootsO s∧(t.isOwn=true→∀ b∈bl t,b∈ownBl s):=by
 unfold am at e
 simp only [Option.bind_eq_some_iff] at e
 obtain ⟨cs,⟨s,hs,hc⟩,ht⟩:=e
 refine ⟨s,hs,List.mem_of_getElem? hs,?_⟩
 have hm:=List.mem_of_getElem? ht
 cases s with
 | one u=>cases hc;exact ⟨hm,hm,fun ho b hb=>by simp at hm;subst hm;simp [ownBl,ownR,ho,hb]⟩
 | agg ts=>cases hc;exact ⟨hm,hm,fun ho b hb=>by simp only [ownBl,List.mem_flatMap];exact ⟨t,hm,by simp [ownR,ho,hb]⟩⟩
 | box b' ts=>cases hc;exact ⟨hm,hm,fun ho b hb=>by simp only [ownBl,List.mem_cons,List.mem_flatMap];exact .inr ⟨t,hm,by simp [ownR,ho,hb]⟩⟩
 | _=>cases hc
structure Cells (w:World) (b o:Nat) (cs:List DT):Prop where
 lies:∃ c e f,w.heap[b]?=some (.cells c e f)∧∀ (j:Nat) (t:DT),cs[j]?=some t→∃ y,c[o+j]?=some y∧VT t y
 holds:∀ t∈cs,Holds w t
theorem Inv.boxRange {cx:Cx} {D:DSt} {P:List (DT×Value)} {tm:Array Value} {w:World} (I:Inv cx D P tm w) {h o n:Nat} {cs:List DT} (e:boxRange D h o n=some cs) :
  ∃ b ts,D[h]?=some (.box b ts)∧cs.length=n∧Cells w b.1 (b.2+o) cs∧(∀ j,j<n→cs[j]?=ts[o+j]?)∧o+n≤ts.length:=by
 unfold Am.boxRange at e
 split at e
 ·rename_i b ts hd
  split at e
  ·rename_i hl
   cases e
   have hm:=I.mem _ (List.mem_of_getElem? hd)
   obtain ⟨c,e,f,hb,hv⟩:=hm.2.2.1
   have hg:∀ j,j<n→((ts.drop o).take n)[j]?=ts[o+j]?:=by
    intro j hj
    rw [List.getElem?_take,if_pos hj,List.getElem?_drop]
   refine ⟨b,ts,hd,by simp;omega,⟨⟨c,e,f,hb,fun j t hj => ?_⟩,fun t ht=>hm.1 t ?_⟩,hg,hl⟩
   ·have hjn:j<n:=by
     rcases Nat.lt_or_ge j n with g | g
     ·exact g
     ·rw [List.getElem?_take,if_neg (by omega)] at hj;cases hj
    rw [hg j hjn] at hj
    have:=hv _ t hj
    rw [← Nat.add_assoc] at this;exact this
   ·exact List.mem_of_mem_drop (List.mem_of_mem_take ht)
  ·cases e
 ·cases e
theorem Inv.rowRange {cx:Cx} {D:DSt} {P:List (DT×Value)} {tm:Array Value} {w:World} (I:Inv cx D P tm w) {h c:Nat} {st:List (Nat×Nat)} {i o n:Nat} {cs:List DT}
  (e:rowRange D h c st i o n=some cs) :
  ∃ t k d z rows row,am D h c=some t∧t.isOwn=true∧Holds w t∧OwnT w t∧getN t st=some (.s k d z rows)∧rows[i]?=some row∧cs.length=n∧o+n≤row.length ∧
   Cells w d.b (d.o+i*z+o) cs∧(∀ j,j<n→cs[j]?=row[o+j]?):=by
 unfold Am.rowRange at e
 split at e
 ·rename_i t ht
  split at e
  ·rename_i ho
   split at e
   ·rename_i k d z rows hn
    simp only [Option.bind_eq_some_iff] at e
    obtain ⟨row,hi,e⟩:=e
    split at e
    ·rename_i hl
     cases e
     obtain ⟨s,hs,hsm,hr,hr',_⟩:=bD ht
     have hm:=I.mem s hsm
     have hh:=Holds.getN st (hm.1 t hr) hn
     have hg:∀ j,j<n→((row.drop o).take n)[j]?=row[o+j]?:=by
      intro j hj
      rw [List.getElem?_take,if_pos hj,List.getElem?_drop]
     refine ⟨t,k,d,z,rows,row,ht,ho,hm.1 t hr,hm.2.1 t hr' ho,hn,hi,by simp;omega,hl,?_,hg⟩
     cases hh with
     | e=>simp at hi
     | s _ _ _ _ h hsp c' e' f hb hcap hz hv hh =>
      refine ⟨⟨c',e',f,hb,fun j u hj => ?_⟩,fun u hu => ?_⟩
      ·have hjn:j<n:=by
        rcases Nat.lt_or_ge j n with g | g
        ·exact g
        ·rw [List.getElem?_take,if_neg (by omega)] at hj;cases hj
       rw [hg j hjn] at hj
       have:=hv i row _ u hi hj
       rw [← Nat.add_assoc] at this;exact this
      ·have hu':=List.mem_of_mem_drop (List.mem_of_mem_take hu)
       obtain ⟨j,hj⟩:=List.getElem?_of_mem hu'
       exact hh i row j u hi hj
    ·cases e
   ·cases e
  ·cases e
 ·cases e
theorem Cells.load {P:Program} {t:TypeId} {ti:TI} (h:jv P t=some ti) (ho:ti.sh ≠ .other) {w:World} {b o:Nat} {cs:List DT} (C:Cells w b o cs) (hn:cs.length=ti.size)
  (h1:ti.sh.agg=false→cs.length=1) :
  ∃ y,(Instr.loadAt t (.pointer (some ⟨b,o,none⟩))).run P w = .ok y w ∧
   (if ti.sh.agg then ∃ ys:Array Value,y = .agg ys∧VCells cs ys.toList else ∃ u,cs=[u]∧VT u y):=by
 obtain ⟨c,e,f,hb,hv⟩:=C.lies
 by_cases ha:ti.sh.agg=true
 ·have hc:∀ j,j<cs.length→∃ y,c[o+j]?=some y∧∀ u,cs[j]?=some u→VT u y:=by
   intro j hj
   obtain ⟨y,h1,h2⟩:=hv j cs[j] (List.getElem?_eq_getElem hj)
   exact ⟨y,h1,fun u hu=>by rw [List.getElem?_eq_getElem hj] at hu;cases hu;exact h2⟩
  let f':Nat→Value:=fun j=>(c[o+j]?).getD undef
  have hf:∀ j,j<ti.size→w.cell? (Addr.add ⟨b,o,none⟩ j)=some (f' j):=by
   intro j hj
   obtain ⟨y,hy,_⟩:=hc j (by omega)
   have:Addr.add ⟨b,o,none⟩ j=⟨b,o+j,none⟩:=by
    unfold Addr.add;split<;>simp_all
   rw [this,nI hb];simp [f',hy]
  refine ⟨.agg ((List.range ti.size).map f').toArray,?_,?_⟩
  rotate_left
  ·rw [if_pos ha]
   refine ⟨_,rfl,by simpa using hn,fun j u y hj hy => ?_⟩
   simp only [List.getElem?_map,Option.map_eq_some_iff] at hy
   obtain ⟨j',hj',rfl⟩:=hy
   have hlt:j<cs.length:=by
    rcases Nat.lt_or_ge j cs.length with g | g
    ·exact g
    ·rw [List.getElem?_eq_none g] at hj;cases hj
   rw [List.getElem?_range (by omega)] at hj'
   cases hj'
   obtain ⟨y,hy,hu⟩:=hc j hlt
   simp only [f',hy,Option.getD_some]
   exact hu u hj
  ·have:=run_loadCells (P:=P) w ⟨b,o,none⟩ ti.size f' hf
   simp [Instr.loadAt,loadVar,Instr.sureAddr,Bp h ho,ha,iS h,this]
 ·have ha':ti.sh.agg=false:=by simpa using ha
  have hl:=h1 ha'
  obtain ⟨u,rfl⟩:∃ u,cs=[u]:=List.length_eq_one_iff.1 hl
  obtain ⟨y,hy,hu⟩:=hv 0 u rfl
  refine ⟨y,?_,?_⟩
  ·have:w.cell? ⟨b,o,none⟩=some y:=by rw [nI hb];simpa using hy
   simp [Instr.loadAt,loadVar,Instr.sureAddr,Bp h ho,ha',run_load,this]
  ·rw [if_neg (by simp [ha'])]
   exact ⟨u,rfl,hu⟩
end Go.Proofs.YtgaiiephdjllkaaGreatDoor.Am
namespace Go.Proofs.YtgaiiephdjllkaaGreatDoor.Am
set_option linter.unusedVariables false
set_option linter.unusedSimpArgs false
open Go
section
variable {δ β : Type}
def gp (D:St δ β) (ti:TI):Sl δ β→Option (Sl δ β)
 | .pb h o=>(boxRange D h o ti.size).bind fun cs =>
  if ti.sh.agg then some (.agg (cs.mapIdx fun j u=>u.kd (.lent h (o+j) true))) else
  match cs with
  | [.s .own _ _ rows]=>some (.al h o [] 0 rows.length)
  | [u]=>some (.one u)
  | _=>none
 | .pe h c st i o=>(rowRange D h c st i o ti.size).bind fun cs =>
  if ti.sh.agg then some (.agg (cs.map (T.view (.lent h c false)))) else
  match cs with
  | [.s .own _ _ rows]=>some (.al h c (st++[(i,o)]) 0 rows.length)
  | [u]=>some (.one (u.view (.lent h c false)))
  | _=>none
 | .im k _ ts o =>
  if o+ti.size≤ts.length then
   if ti.sh.agg then some (.agg (((ts.drop o).take ti.size).map (T.view k.unr))) else
   match (ts.drop o).take ti.size with
   | [u]=>some (.one (u.view k.unr))
   | _=>none
  else none
 | _=>none
end
theorem nG {k:Kd} {t:DT} {y:Value}:VT (t.view k) y↔VT t y:=by
 cases t<;>exact .rfl
theorem jx {w:World} {k:Kd} {t:DT} (h:Holds w t):Holds w (t.view k):=by
 cases t with
 | v x=>exact h
 | any=>exact h
 | s k' d z r=>exact oB h
theorem GV (k:Kd) (t:DT):bl (t.view k)=bl t:=by
 cases t with
 | v x=>rfl
 | any=>rfl
 | s k' d z r=>simp only [T.view,bW]
theorem nz {k:Kd} (hk:k ≠ .own) (t:DT):(t.view k).isOwn=false:=by
 cases t with
 | v x=>rfl
 | any=>rfl
 | s k' d z r=>cases k<;>simp_all [T.view,T.isOwn]
theorem ww {cx:Cx} {D:DSt} {t:DT} (h:∀ x∈bl t,cx.far x):bg cx D (t.view .far):=by
 cases t with
 | v x=>trivial
 | any=>trivial
 | s k' d z r=>exact fun x hx=>h x (by simp only [bW] at hx ⊢;exact hx)
theorem oD {cx:Cx} {D:DSt} {h' c:Nat} {t₀ t:DT} (hc:am D h' c=some t₀) (ho:t₀.isOwn=true) (h:∀ x∈bl t,x∈bl t₀):bg cx D (t.view (.lent h' c false)):=by
 cases t with
 | v x=>trivial
 | any=>trivial
 | s k' d z r=>exact ⟨t₀,hc,ho,fun x hx=>h x (by simp only [bW] at hx ⊢;exact hx),fun h=>by cases h⟩
theorem Bs {cx:Cx} {D:DSt} {k:Kd} {b:Nat} {ts:List DT} (h:lj cx D k b ts) {t:DT} (ht:t∈ts):bg cx D (t.view k.unr):=by
 cases k with
 | own=>exact h.elim
 | far=>exact ww (h.2 t ht)
 | lent h' c fl =>
  obtain ⟨t₀,h1,h2,h3,h4⟩:=h
  exact oD h1 h2 (h4 t ht)
theorem qw {ts:List DT} {cs:List Value} (f:Nat→DT→DT) (hf:∀ i t y,VT t y→VT (f i t) y) (h:VCells ts cs):VCells (ts.mapIdx f) cs:=by
 refine ⟨by simpa using h.1,fun i t y hi hy => ?_⟩
 rw [List.getElem?_mapIdx,Option.map_eq_some_iff] at hi
 obtain ⟨t',hi,rfl⟩:=hi
 exact hf _ _ _ (h.2 i t' y hi hy)
theorem s6 {α γ:Type} (f:α→γ) (l:List α):l.mapIdx (fun _ x=>f x)=l.map f:=by
 apply List.ext_getElem?;intro i;simp
theorem Tells.agg {cx:Cx} {D:DSt} {w:World} {ts:List DT} {ys:Array Value} (hv:VCells ts ys.toList) (hh:∀ t∈ts,Holds w t) (hk:∀ t∈ts,bg cx D t) (hn:∀ t∈ts,t.isOwn=false) :
  Tells cx D w (.agg ts) (.agg ys) :=
 ⟨⟨ys,rfl,hv⟩,⟨hh,(fun t ht ho=>by rw [hn t ht] at ho;cases ho),trivial⟩,hk,by
  simp only [ownBl,List.flatMap_eq_nil_iff];exact fun t ht=>dI (hn t ht)⟩
theorem Tells.one {cx:Cx} {D:DSt} {w:World} {t:DT} {y:Value} (hv:VT t y) (hh:Holds w t) (hk:bg cx D t) (hn:t.isOwn=false):Tells cx D w (.one t) y :=
 ⟨hv,⟨fun u hu=>by simp [ai] at hu;subst hu;exact hh,(fun u hu ho=>by simp [rootsO] at hu;subst hu;rw [hn] at ho;cases ho),trivial⟩,
  fun u hu=>by simp [ai] at hu;subst hu;exact hk,dI hn⟩
theorem xK:∀ (st:List (Nat×Nat)) {t:DT} {k:Kd} {d:Dec} {z:Nat} {rows:List (List DT)} {i c:Nat} {row:List DT} {u:DT},
  getN t st=some (.s k d z rows)→rows[i]?=some row→row[c]?=some u→getN t (st++[(i,c)])=some u
 | [],t,k,d,z,rows,i,c,row,u,h,hi,hj=>by
  cases h
  simp [getN,hi,hj]
 | (i',c')::st,t,k,d,z,rows,i,c,row,u,h,hi,hj=>by
  cases t with
  | v x=>simp [getN] at h
  | any=>simp [getN] at h
  | s k' d' z' rows' =>
   simp only [getN,List.cons_append,Option.bind_eq_some_iff] at h ⊢
   obtain ⟨v,hv,h⟩:=h
   exact ⟨v,hv,xK st h hi hj⟩
variable {P : Program} {tab : Tab}
theorem Tells.load {cx:Cx} {D:DSt} {Pd:List (DT×Value)} {tm:Array Value} {w:World} (I:Inv cx D Pd tm w) {t:TypeId} {ti:TI} (h:jv P t=some ti) (ho:ti.sh ≠ .other)
  {p s:DSl} {yp:Value} (hp:Tells cx D w p yp) (e:gp D ti p=some s):∃ y,(Instr.loadAt t yp).run P w = .ok y w∧Tells cx D w s y:=by
 unfold gp at e
 split at e
 ·rename_i h' o
  obtain ⟨b,ts,hb,hy⟩:=hp.val
  simp only [Option.bind_eq_some_iff] at e
  obtain ⟨cs,hr,e⟩:=e
  obtain ⟨b',ts',hb',hlen,hC,hg,hle⟩:=I.boxRange hr
  rw [hb] at hb';cases hb'
  have hkind:∀ (j:Nat) (u:DT),cs[j]?=some u→bg cx D (u.kd (.lent h' (o+j) true)):=by
   intro j u hj
   have hjn:j<ti.size:=by
    rcases Nat.lt_or_ge j cs.length with g | g
    ·omega
    ·rw [List.getElem?_eq_none g] at hj;cases hj
   rw [hg j hjn] at hj
   have hk:=I.kind _ (List.mem_of_getElem? hb)
   have hc:am D h' (o+j)=some u:=by simp [am,hb,aI,hj]
   have hk':bg cx D u:=hk u (List.mem_of_getElem? hj)
   cases u with
   | v x=>trivial
   | any=>trivial
   | s k d z r =>
    cases k with
    | own=>exact ⟨_,hc,rfl,fun x hx=>(by simp only [bW] at hx ⊢;exact hx),fun _=>⟨_,_,rfl,rfl⟩⟩
    | far=>exact hk'
    | lent h c fl=>exact hk'
  split at e
  ·rename_i ha
   cases e
   obtain ⟨y,h1,h2⟩:=Cells.load h ho hC hlen (fun hf=>by rw [ha] at hf;cases hf)
   rw [if_pos ha] at h2
   obtain ⟨ys,rfl,h2⟩:=h2
   refine ⟨_,by rw [hy];exact h1,.agg (qw _ (fun _ _ _=>C6.2) h2) ?_ ?_ ?_⟩
   ·intro t ht
    simp only [List.mem_mapIdx] at ht
    obtain ⟨i,hi,rfl⟩:=ht
    exact za (hC.holds _ (List.getElem_mem hi))
   ·intro t ht
    simp only [List.mem_mapIdx] at ht
    obtain ⟨i,hi,rfl⟩:=ht
    exact hkind i _ (List.getElem?_eq_getElem hi)
   ·intro t ht
    simp only [List.mem_mapIdx] at ht
    obtain ⟨i,hi,rfl⟩:=ht
    exact m7 _ _ _ _
  ·rename_i ha
   have h1l:cs.length=1:=by split at e<;>first | rfl | cases e
   obtain ⟨y,h1,h2⟩:=Cells.load h ho hC hlen (fun _=>h1l)
   rw [if_neg ha] at h2
   obtain ⟨u,rfl,h2⟩:=h2
   refine ⟨y,by rw [hy];exact h1,?_⟩
   have hu:ts[o]?=some u:=by have:=hg 0 (by simp at hlen;omega);simpa using this.symm
   have hm:=I.mem _ (List.mem_of_getElem? hb)
   split at e
   ·rename_i d z rows heq
    cases heq;cases e
    refine ⟨⟨d,z,rows.length,_,⟨.s .own d z rows,by simp [am,hb,aI,hu],rfl,.own,rows,rfl,rfl⟩,by omega,h2,?_,fun _=>Dec.addr_none (hm.2.1 (.s .own d z rows) (List.mem_of_getElem? hu) rfl).sp⟩,
     ⟨fun t ht=>by simp [ai] at ht,fun t ht=>by simp [rootsO] at ht,trivial⟩,fun t ht=>by simp [ai] at ht,rfl⟩
    intro hc
    have ho:=hm.2.1 (.s .own d z rows) (List.mem_of_getElem? hu) rfl
    have hs:=ho.sp
    cases ho with
    | nil d z h hsp' hc'=>omega
    | s d z rows h'=>simp [Dec.addr,h',hs]
   ·rename_i hne heq
    cases heq;cases e
    have hno:u.isOwn=false:=by
     cases u with
     | v x=>rfl
     | any=>rfl
     | s k d z r =>
      cases k with
      | own=>exact absurd rfl (hne d z r)
      | _=>rfl
    exact .one h2 (hC.holds _ (by simp)) (I.kind _ (List.mem_of_getElem? hb) u (List.mem_of_getElem? hu)) hno
   ·cases e
 ·rename_i h' c st i o
  obtain ⟨d',z',n',hn,hin,hy⟩:=hp.val
  simp only [Option.bind_eq_some_iff] at e
  obtain ⟨cs,hr,e⟩:=e
  obtain ⟨t₀,k,d,z,rows,row,hc,hto,hth,htw,hgn,hrow,hlen,hle,hC,hg⟩:=I.rowRange hr
  have hde:d=d'∧z=z':=by
   obtain ⟨t1,h1,h2,k1,rows1,h3,h4⟩:=hn
   rw [hc] at h1;cases h1
   rw [hgn] at h3;cases h3;exact ⟨rfl,rfl⟩
  obtain ⟨rfl,rfl⟩:=hde
  have hbl:∀ (j:Nat) (u:DT),cs[j]?=some u→∀ x∈bl u,x∈bl t₀:=by
   intro j u hj x hx
   have hjn:j<ti.size:=by
    rcases Nat.lt_or_ge j cs.length with g | g
    ·omega
    ·rw [List.getElem?_eq_none g] at hj;cases hj
   rw [hg j hjn] at hj
   exact pI st hgn x (iq hrow hj hx)
  have hown:∀ (j:Nat) (u:DT),cs[j]?=some u→OwnT w u:=by
   intro j u hj
   have hjn:j<ti.size:=by
    rcases Nat.lt_or_ge j cs.length with g | g
    ·omega
    ·rw [List.getElem?_eq_none g] at hj;cases hj
   rw [hg j hjn] at hj
   have:=OwnT.getN st htw hgn
   cases this with
   | nil=>simp at hrow
   | s _ _ _ h hsp c' e' lo hi' hb hcap hroom hf hh=>exact hh i row _ u hrow hj
  have hkind:∀ (j:Nat) (u:DT),cs[j]?=some u→bg cx D (u.view (.lent h' c false)):=fun j u hj=>oD hc hto (hbl j u hj)
  split at e
  ·rename_i ha
   cases e
   obtain ⟨y,h1,h2⟩:=Cells.load h ho hC hlen (fun hf=>by rw [ha] at hf;cases hf)
   rw [if_pos ha] at h2
   obtain ⟨ys,rfl,h2⟩:=h2
   refine ⟨_,by rw [hy];exact h1,.agg ?_ ?_ ?_ ?_⟩
   ·have:=qw (fun _ u=>u.view (.lent h' c false)) (fun _ _ _=>nG.2) h2
    rwa [s6] at this
   ·intro t ht
    obtain ⟨u,hu,rfl⟩:=List.mem_map.1 ht
    exact jx (hC.holds _ hu)
   ·intro t ht
    obtain ⟨u,hu,rfl⟩:=List.mem_map.1 ht
    obtain ⟨j,hj⟩:=List.getElem?_of_mem hu
    exact hkind j u hj
   ·intro t ht
    obtain ⟨u,hu,rfl⟩:=List.mem_map.1 ht
    exact nz (by simp) _
  ·rename_i ha
   have h1l:cs.length=1:=by split at e<;>first | rfl | cases e
   obtain ⟨y,h1,h2⟩:=Cells.load h ho hC hlen (fun _=>h1l)
   rw [if_neg ha] at h2
   obtain ⟨u,rfl,h2⟩:=h2
   refine ⟨y,by rw [hy];exact h1,?_⟩
   have hu:row[o]?=some u:=by have:=hg 0 (by simp at hlen;omega);simpa using this.symm
   split at e
   ·rename_i d1 z1 rows1 heq
    cases heq;cases e
    refine ⟨⟨d1,z1,rows1.length,_,⟨t₀,hc,hto,.own,rows1,xK st hgn hrow hu,rfl⟩,by omega,h2,?_,fun _=>Dec.addr_none (hown 0 _ rfl).sp⟩,
     ⟨fun t ht=>by simp [ai] at ht,fun t ht=>by simp [rootsO] at ht,trivial⟩,fun t ht=>by simp [ai] at ht,rfl⟩
    intro hcap
    have ho:=hown 0 _ rfl
    have hs:=ho.sp
    cases ho with
    | nil d z h hsp' hc'=>omega
    | s d z rows h'=>simp [Dec.addr,h',hs]
   ·rename_i hne heq
    cases heq;cases e
    exact .one (nG.2 h2) (jx (hC.holds _ (by simp))) (hkind 0 _ rfl) (nz (by simp) _)
   ·cases e
 ·rename_i k b ts o
  have hy:yp = .pointer (some ⟨b.1,b.2+o,none⟩):=hp.val
  split at e
  ·rename_i hle
   have hkk:k.unr ≠ .own:=by
    intro hk
    cases k with
    | own=>exact hp.kind
    | _=>cases hk
   have hC:Cells w b.1 (b.2+o) ((ts.drop o).take ti.size):=by
    obtain ⟨c',e',f,hb,hv⟩:=hp.mem.2.2
    refine ⟨⟨c',e',f,hb,fun j t hj => ?_⟩,fun t ht=>hp.mem.1 t (List.mem_of_mem_drop (List.mem_of_mem_take ht))⟩
    have hjn:j<ti.size:=by
     rcases Nat.lt_or_ge j ti.size with g | g
     ·exact g
     ·rw [List.getElem?_take,if_neg (by omega)] at hj;cases hj
    rw [List.getElem?_take,if_pos hjn,List.getElem?_drop] at hj
    have:=hv _ t hj
    rw [← Nat.add_assoc] at this;exact this
   have hlen:((ts.drop o).take ti.size).length=ti.size:=by simp;omega
   have hkind:∀ u∈(ts.drop o).take ti.size,bg cx D (u.view k.unr):=fun u hu =>
    Bs hp.kind (List.mem_of_mem_drop (List.mem_of_mem_take hu))
   split at e
   ·rename_i ha
    cases e
    obtain ⟨y,h1,h2⟩:=Cells.load h ho hC hlen (fun hf=>by rw [ha] at hf;cases hf)
    rw [if_pos ha] at h2
    obtain ⟨ys,rfl,h2⟩:=h2
    refine ⟨_,by rw [hy];exact h1,.agg ?_ ?_ ?_ ?_⟩
    ·have:=qw (fun _ u=>u.view k.unr) (fun _ _ _=>nG.2) h2
     rwa [s6] at this
    ·intro t ht
     obtain ⟨u,hu,rfl⟩:=List.mem_map.1 ht
     exact jx (hC.holds _ hu)
    ·intro t ht
     obtain ⟨u,hu,rfl⟩:=List.mem_map.1 ht
     exact hkind u hu
    ·intro t ht
     obtain ⟨u,hu,rfl⟩:=List.mem_map.1 ht
     exact nz hkk _
   ·rename_i ha
    split at e
    ·rename_i u heq
     cases e
     rw [heq] at hC hlen hkind
     obtain ⟨y,h1,h2⟩:=Cells.load h ho hC hlen (fun _=>rfl)
     rw [if_neg ha] at h2
     obtain ⟨u',hu',h2⟩:=h2
     cases hu'
     exact ⟨y,by rw [hy];exact h1,.one (nG.2 h2) (jx (hC.holds _ (by simp))) (hkind _ (by simp)) (nz hkk _)⟩
    ·cases e
  ·cases e
 ·cases e
end Go.Proofs.YtgaiiephdjllkaaGreatDoor.Am
namespace Go.Proofs.YtgaiiephdjllkaaGreatDoor.Am
set_option linter.unusedVariables false
set_option linter.unusedSimpArgs false
open Go
structure Mk (δ β:Type) where
 nil:δ
 win:δ→Nat→Nat→δ
 at_:δ→Nat→Nat→β
 ptr:β→δ
def mkD:Mk Dec (Nat×Nat) where
 nil:=nilD
 win d l z:={ d with o:=if d.cap=l then d.o else d.o+l*z,cap:=d.cap-l }
 at_ d i z:=(d.b,d.o+i*z)
 ptr b:=⟨b.1,b.2,1,false,none⟩
def mkU:Mk Unit Unit where
 nil:=()
 win _ _ _:=()
 at_ _ _ _:=()
 ptr _:=()
section
variable {δ β : Type}
def intOfSl:Sl δ β→Option Int
 | .one (.v (.int _ n))=>some n
 | _=>none
def lL (D:St δ β) (h c:Nat) (st:List (Nat×Nat)):Option Nat :=
 match cf D h c st with
 | some (.s _ _ z _)=>some z
 | _=>none
def iQ (M:Mk δ β) (D:St δ β) (tab:Tab) (t:Nat) (x:Sl δ β) (lo hi:Option Int):Option (Sl δ β) :=
 match x with
 | .one (.v (.string s)) =>
  if ((tab.ti t).map (·.sh))=some .str then
   if 0≤lo.getD 0∧lo.getD 0≤hi.getD s.size∧hi.getD s.size≤(s.size:Int) then some (.one (.v (.string (s.extract (lo.getD 0).toNat (hi.getD s.size).toNat)))) else none
  else none
 | .one (.s k d z rows) =>
  if k = .own then none else
  match tab.ti t with
  | some ⟨_,_,_,.slice e⟩ =>
   if ((tab.ti e).map (·.size))=some z then
    if 0≤lo.getD 0∧lo.getD 0≤hi.getD rows.length∧hi.getD rows.length≤(rows.length:Int) then
     some (.one (.s k.unr (M.win d (lo.getD 0).toNat z) z ((rows.drop (lo.getD 0).toNat).take ((hi.getD rows.length).toNat-(lo.getD 0).toNat)))) else none
   else none
  | _=>none
 | .al h c st l len =>
  match tab.ti t with
  | some ⟨_,_,_,.slice e⟩ =>
   if ((tab.ti e).map (·.size))=lL D h c st then
    if 0≤lo.getD 0∧lo.getD 0≤hi.getD len∧hi.getD len≤(len:Int) then
     some (.al h c st (l+(lo.getD 0).toNat) ((hi.getD len).toNat-(lo.getD 0).toNat)) else none
   else none
  | _=>none
 | _=>none
end
abbrev bV (lo:Option (IntKind×Int)):Option Value:=lo.map fun p=>Value.int p.1 p.2
theorem ra {P:Program} (w:World) (b:Bool) (len cap:Nat) (lo hi:Option (IntKind×Int)) (hc:len≤cap)
  (h:0≤(lo.map Prod.snd).getD 0∧(lo.map Prod.snd).getD 0≤(hi.map Prod.snd).getD (len:Int)∧(hi.map Prod.snd).getD (len:Int)≤(cap:Int)) :
  (Instr.sliceBounds b len cap (bV lo) (bV hi) none).run P w = .ok (((lo.map Prod.snd).getD 0).toNat,((hi.map Prod.snd).getD (len:Int)).toNat,cap) w:=by
 obtain ⟨h0,h1,h2⟩:=h
 cases lo with
 | none =>
  cases hi with
  | none=>simp [Instr.sliceBounds]
  | some p =>
   simp at h1 h2
   simp [Instr.sliceBounds,run_sliceBound w p.1 p.2 cap _ h1 h2]
 | some q =>
  cases hi with
  | none =>
   simp at h0 h1 h2
   simp [Instr.sliceBounds,run_sliceBound w q.1 q.2 len _ h0 h1]
  | some p =>
   simp at h0 h1 h2
   simp [Instr.sliceBounds,run_sliceBound w p.1 p.2 cap _ (by omega) h2,run_sliceBound w q.1 q.2 p.2.toNat _ h0 (by omega)]
theorem Ho (d:Dec) (z l:Nat) (hs:d.sp=none∨l=0) :
  (if d.cap=l then d.addr else d.addr.map (·.add (l*z)))=(mkD.win d l z).addr:=by
 rcases hs with hs | hs
 ·rw [Dec.addr_none hs,Dec.addr_none (d:=mkD.win d l z) (by simpa [mkD] using hs)]
  simp only [mkD]
  by_cases hnil:d.nil=true
  ·simp [hnil]
  ·simp only [hnil]
   by_cases hc:d.cap=l
   ·simp [hc]
   ·simp only [hc,if_false,Bool.false_eq_true,Option.map_some,Option.some.injEq]
    unfold Addr.add
    split
    ·rename_i h0;simp [h0]
    ·rfl
 ·subst hs
  have h0:(mkD.win d 0 z).addr=d.addr:=by
   unfold Dec.addr mkD
   simp
  rw [h0]
  cases d.addr<;>simp [Addr.add]
theorem GP {tab:Tab} {t:Nat} {s:Sh} (h:((tab.ti t).map (·.sh))=some s):∃ ti,tab.ti t=some ti∧ti.sh=s:=by
 cases e:tab.ti t with
 | none=>rw [e] at h;cases h
 | some ti=>rw [e] at h;cases h;exact ⟨ti,rfl,rfl⟩
theorem o5 {tab:Tab} {t:Nat} {n:Nat} (h:((tab.ti t).map (·.size))=some n):∃ ti,tab.ti t=some ti∧ti.size=n:=by
 cases e:tab.ti t with
 | none=>rw [e] at h;cases h
 | some ti=>rw [e] at h;cases h;exact ⟨ti,rfl,rfl⟩
theorem Holds.cap {w:World} {k:Kd} {d:Dec} {z:Nat} {rows:List (List DT)} (h:Holds w (.s k d z rows)):rows.length≤d.cap:=by
 cases h with
 | e=>simp
 | s _ _ _ _ h hsp c e f hb hcap hz hv hh=>exact hcap
theorem Holds.win {w:World} {k:Kd} {d:Dec} {z:Nat} {rows:List (List DT)} (h:Holds w (.s k d z rows)) (l n:Nat) (hl:l+n≤rows.length) :
  Holds w (.s k (mkD.win d l z) z ((rows.drop l).take n)):=by
 cases h with
 | e=>simp;exact .e _ _ _
 | s _ _ _ _ h hsp c e f hb hcap hz hv hh =>
  have hget:∀ (i:Nat) (row:List DT),((rows.drop l).take n)[i]?=some row→rows[l+i]?=some row∧i<n:=by
   intro i row hi
   rw [List.getElem?_take] at hi
   split at hi
   ·rw [List.getElem?_drop] at hi;exact ⟨hi, ‹_›⟩
   ·cases hi
  refine .s _ _ _ _ (by simpa [mkD] using h) (by simpa [mkD] using hsp) c e f (by simpa [mkD] using hb) (by simp [mkD];omega) ?_ ?_ ?_
  ·intro i row hi
   exact hz _ row (hget i row hi).1
  ·intro i row j t hi hj
   obtain ⟨hi',hin⟩:=hget i row hi
   obtain ⟨y,h1,h2⟩:=hv _ row j t hi' hj
   refine ⟨y,?_,h2⟩
   have hne:¬ d.cap=l:=by omega
   simp only [mkD,hne,if_false]
   rw [← h1];congr 1;rw [Nat.add_mul];omega
  ·intro i row j t hi hj
   exact hh _ row j t (hget i row hi).1 hj
theorem zk {k:Kd} {d:Dec} {z:Nat} {rows:List (List DT)} {l n:Nat} {x:Nat} (h:x∈bl (.s k (mkD.win d l z) z ((rows.drop l).take n))):x∈bl (.s k d z rows):=by
 rw [bW] at h ⊢
 simp only [List.mem_append,List.mem_flatMap] at h ⊢
 rcases h with h | ⟨row,hr,h⟩
 ·exact .inl h
 ·exact .inr ⟨row,List.mem_of_mem_drop (List.mem_of_mem_take hr),h⟩
variable {P : Program} {tab : Tab}
theorem Inv.node {cx:Cx} {D:DSt} {Pd:List (DT×Value)} {tm:Array Value} {w:World} (I:Inv cx D Pd tm w) {h c:Nat} {st:List (Nat×Nat)} {d:Dec} {z n:Nat} (hn:dt D h c st d z n) :
  ∃ t k rows,am D h c=some t∧t.isOwn=true∧getN t st=some (.s k d z rows)∧rows.length=n∧Holds w (.s k d z rows)∧OwnT w (.s k d z rows):=by
 obtain ⟨t,h1,h2,k,rows,h3,h4⟩:=hn
 obtain ⟨s,hs,hsm,hr,hr',_⟩:=bD h1
 have hm:=I.mem s hsm
 exact ⟨t,k,rows,h1,h2,h3,h4,Holds.getN st (hm.1 t hr) h3,OwnT.getN st (hm.2.1 t hr' h2) h3⟩
theorem Tells.slice (ok:a8 P tab) {cx:Cx} {D:DSt} {Pd:List (DT×Value)} {tm:Array Value} {w:World} (I:Inv cx D Pd tm w) {t:TypeId} {x s:DSl} {yx:Value} (hx:Tells cx D w x yx)
  (lo hi:Option (IntKind×Int)) (e:iQ mkD D tab t x (lo.map Prod.snd) (hi.map Prod.snd)=some s) :
  ∃ y,(Instr.sliceAt t yx (bV lo) (bV hi) none).run P w = .ok y w∧Tells cx D w s y:=by
 unfold iQ at e
 split at e
 ·rename_i str
  split at e
  ·rename_i hs
   obtain ⟨ti,hti,hsh⟩:=GP hs
   have hu:=qm (Tab.ok ok hti) hsh
   split at e
   ·rename_i hb
    cases e
    have hy:yx = .string str:=hx.val.1
    subst hy
    refine ⟨_,?_,.one_v _ rfl⟩
    rw [run_sliceAt_string w t _ _ _ _ hu]
    simp [Instr.slice,run_underlying hu,ra (P:=P) w false str.size str.size lo hi (Nat.le_refl _) hb]
   ·cases e
  ·cases e
 ·rename_i k d z rows
  split at e
  ·cases e
  rename_i hk
  split at e
  ·rename_i sz by_ ze el hti
   have hu:=ef (Tab.ok ok hti) rfl
   have hel:P.elem t=el:=by simp [Program.elem,hu]
   split at e
   ·rename_i hz
    obtain ⟨te,hte,hze⟩:=o5 hz
    split at e
    ·rename_i hb
     cases e
     have hH:=hx.mem.1 (.s k d z rows) (by simp [ai])
     have hcap:=hH.cap
     have hy:yx = .slice d.addr rows.length d.cap:=hx.val
     have hno:(T.s k d z rows).isOwn=false:=by cases k<;>first | rfl | exact absurd rfl hk
     have hbs:=ra (P:=P) w true rows.length d.cap lo hi hcap ⟨hb.1,hb.2.1,Int.le_trans hb.2.2 (by omega)⟩
     have hsz:=iS (Tab.ok ok hte) w
     obtain ⟨h0,h1,h2⟩:=hb
     refine ⟨_,?_,.one (y := .slice (mkD.win d ((lo.map Prod.snd).getD 0).toNat z).addr
      ((rows.drop ((lo.map Prod.snd).getD 0).toNat).take (((hi.map Prod.snd).getD (rows.length:Int)).toNat-((lo.map Prod.snd).getD 0).toNat)).length (mkD.win d ((lo.map Prod.snd).getD 0).toNat z).cap) rfl (oB (hH.win _ _ ?_)) ?_ ?_⟩
     ·rw [run_sliceAt_slice w t _ _ _ _ (by rw [hel];exact hu),hy,run_slice_any w t _ _ _ (by rw [hel];exact hu),hbs]
      simp only [Result.andThen_ok,hel,hsz,hze]
      congr 1
      unfold sliced
      have:=Ho d z ((lo.map Prod.snd).getD 0).toNat (by
       by_cases hr:rows=[]
       ·subst hr;have h1':=h1;have h2':=h2;simp only [List.length_nil] at h1' h2';right;omega
       ·exact .inl (hH.sp hr))
      rw [this]
      congr 1
      simp only [List.length_take,List.length_drop]
      omega
     ·omega
     ·have hk':=hx.kind (.s k d z rows) (by simp [ai])
      cases k with
      | own=>exact absurd rfl hk
      | far=>exact fun x hx=>hk' x (zk hx)
      | lent h' c fl =>
       obtain ⟨t,h1,h2,h3⟩:=hk'
       exact ⟨t,h1,h2,fun x hx=>h3.1 x (zk hx),fun h=>by cases h⟩
     ·cases k<;>first | rfl | exact absurd rfl hk
    ·cases e
   ·cases e
  ·cases e
 ·rename_i h c st l len
  split at e
  ·rename_i sz by_ ze el hti
   have hu:=ef (Tab.ok ok hti) rfl
   have hel:P.elem t=el:=by simp [Program.elem,hu]
   obtain ⟨d,z,n,a,hn,hle,hy,ha,ha0⟩:=hx.val
   have hnz:lL D h c st=some z:=by
    obtain ⟨t,h1,h2,k,rows,h3,h4⟩:=hn
    simp [lL,cf,h1,h3]
   rw [hnz] at e
   split at e
   ·rename_i hz
    obtain ⟨te,hte,hze⟩:=o5 hz
    split at e
    ·rename_i hb
     cases e
     have hsz:=iS (Tab.ok ok hte) w
     have hcap:n≤d.cap:=by
      obtain ⟨_,_,_,_,_,_,h4,h5,_⟩:=I.node hn
      rw [← h4];exact h5.cap
     have hbs:=ra (P:=P) w true len (d.cap-l) lo hi (by omega) ⟨hb.1,hb.2.1,Int.le_trans hb.2.2 (by omega)⟩
     obtain ⟨h0,h1,h2⟩:=hb
     refine ⟨_,?_,⟨⟨d,z,n,(if d.cap-l=((lo.map Prod.snd).getD 0).toNat then a else a.map (·.add (((lo.map Prod.snd).getD 0).toNat*z))),hn,?_,rfl,?_,?_⟩,⟨fun t ht=>by simp [ai] at ht,fun t ht=>by simp [rootsO] at ht,trivial⟩,fun t ht=>by simp [ai] at ht,rfl⟩⟩
     ·rw [run_sliceAt_slice w t _ _ _ _ (by rw [hel];exact hu),hy,run_slice_any w t _ _ _ (by rw [hel];exact hu),hbs]
      simp only [Result.andThen_ok,hel,hsz,hze,sliced]
      congr 2
      omega
     ·omega
     ·intro hc
      rw [if_neg (by omega),ha (by omega)]
      simp only [Option.map_some,Option.some.injEq]
      unfold Addr.add
      split
      ·rename_i hz0
       simp only [Addr.mk.injEq,and_true,true_and]
       rw [Nat.add_mul];omega
      ·simp only [Addr.mk.injEq,and_true,true_and]
       rw [Nat.add_mul];omega
     ·intro hl0
      have hl:l=0:=by omega
      have hlo:((lo.map Prod.snd).getD 0).toNat=0:=by omega
      rw [hlo,ha0 hl]
      split
      ·rfl
      ·split<;>simp [Addr.add]
    ·cases e
   ·cases e
  ·cases e
 ·cases e
end Go.Proofs.YtgaiiephdjllkaaGreatDoor.Am
namespace Go.Proofs.YtgaiiephdjllkaaGreatDoor.Am
set_option linter.unusedVariables false
set_option linter.unusedSimpArgs false
open Go
section
variable {δ β : Type}
def fk (s:ByteArray) (i:Int):Int:=((s[i.toNat]?.map fun b=>(b.toNat:Int)).getD 0)
def fv (M:Mk δ β) (D:St δ β) (tab:Tab) (t:Nat) (x:Sl δ β) (i:Int):Option (Sl δ β) :=
 match tab.ti t with
 | some ⟨_,_,_,.slice e⟩ =>
  match x with
  | .one (.s k d z rows) =>
   if k = .own then none else
   if ((tab.ti e).map (·.size))=some z then
    if 0≤i then (rows[i.toNat]?).map fun row => .im k (M.at_ d i.toNat z) row 0 else none
   else none
  | .al h c st lo len =>
   if ((tab.ti e).map (·.size))=lL D h c st then
    if 0≤i∧i<(len:Int) then some (.pe h c st (lo+i.toNat) 0) else none
   else none
  | _=>none
 | _=>none
def iK (tab:Tab) (t:Nat) (x:Sl δ β) (f:Nat):Option (Sl δ β) :=
 match tab.ti t with
 | some ⟨_,_,_,.struct offs⟩ =>
  (offs[f]?).bind fun o =>
  match x with
  | .pb h off=>some (.pb h (off+o))
  | .pe h c st i off=>some (.pe h c st i (off+o))
  | .im k b ts off=>some (.im k b ts (off+o))
  | _=>none
 | _=>none
def qW (tab:Tab) (t:Nat) (x:Sl δ β):Option Int :=
 match tab.ti t with
 | some ⟨_,_,_,.slice _⟩ =>
  match x with
  | .one (.s k _ _ rows)=>if k = .own then none else some rows.length
  | .al _ _ _ _ len=>some len
  | _=>none
 | some ⟨_,_,_,.str⟩ =>
  match x with
  | .one (.v (.string s))=>some s.size
  | _=>none
 | _=>none
def vZ:Sl δ β→Bool
 | .pb _ _=>true
 | .pe _ _ _ _ _=>true
 | .im _ _ _ _=>true
 | _=>false
def fR (nil:δ) (D:St δ β):Option Operand→Option (Option Int)
 | none=>some none
 | some x=>match opd nil D x with
  | some (.one (.v (.int _ n)))=>some (some n)
  | _=>none
def vv (M:Mk δ β) (tab:Tab) (D:St δ β) (c:Call):Option (Sl δ β) :=
 match c.callee,c.args.toList,c.argTypes.toList with
 | .builtin .len,[x],[t]=>(opd M.nil D x).bind fun s=>(qW tab t s).map fun n => .one (.v (.int .i64 n))
 | .builtin .max,[x,y],_ =>
  match opd M.nil D x,opd M.nil D y with
  | some (.one (.v (.int k a))),some (.one (.v (.int _ b)))=>some (.one (.v (.int k (if b>a then b else a))))
  | _,_=>none
 | .builtin .min,[x,y],_ =>
  match opd M.nil D x,opd M.nil D y with
  | some (.one (.v (.int k a))),some (.one (.v (.int _ b)))=>some (.one (.v (.int k (if b<a then b else a))))
  | _,_=>none
 | _,_,_=>none
def bA (M:Mk δ β) (tab:Tab) (D:St δ β) (op:Op):Option (Sl δ β) :=
 match op with
 | .move x=>opd M.nil D x
 | .assign x=>opd M.nil D x
 | .pick c a b =>
  match opd M.nil D c with
  | some (.one (.v (.bool true)))=>opd M.nil D a
  | some (.one (.v (.bool false)))=>opd M.nil D b
  | _=>none
 | .nilCheck x=>(opd M.nil D x).bind fun s=>if vZ s then some s else none
 | .binOp op t x y _ =>
  match opd M.nil D x,opd M.nil D y with
  | some (.one (.v a)),some (.one (.v b))=>(r8 tab op t a b).map fun z => .one (.v z)
  | some (.agg us),some (.agg vs)=>(eqS tab op t us vs).map fun z => .one (.v z)
  | _,_=>none
 | .unOp op _ x =>
  match opd M.nil D x with
  | some (.one (.v (.bool b)))=>(match op with | .not=>some (.one (.v (.bool !b))) | _=>none)
  | some (.one (.v (.int k n)))=>(match op with | .neg=>some (.one (.v (.int k (k.wrap (0-n))))) | _=>none)
  | _=>none
 | .convert src dst x =>
  match opd M.nil D x,tab.ti src,tab.ti dst with
  | some (.one (.v (.int _ n))),some _,some ⟨_,_,_,.int k⟩=>some (.one (.v (.int k (k.wrap n))))
  | _,_,_=>none
 | .load t x =>
  match opd M.nil D x,tab.ti t with
  | some p,some ti=>if ti.sh = .other then none else gp D ti p
  | _,_=>none
 | .fieldAddr t x f=>(opd M.nil D x).bind fun p=>iK tab t p f
 | .indexAddr t x i =>
  match opd M.nil D x,opd M.nil D i with
  | some p,some (.one (.v (.int _ n)))=>fv M D tab t p n
  | _,_=>none
 | .index t x i =>
  match opd M.nil D x,opd M.nil D i with
  | some (.one (.v (.string s))),some (.one (.v (.int _ n))) =>
   if ((tab.ti t).map (·.sh))=some .str then
    if 0≤n∧n<(s.size:Int) then some (.one (.v (.int .u8 (fk s n)))) else none
   else none
  | some (.clo (.arr offs) hs),some (.one (.v (.int _ n))) =>
   if 0≤n∧tab.ars.lookup t=some hs.length∧offs.length=hs.length then
    match hs[n.toNat]?,offs[n.toNat]? with
    | some h,some o=>some (.pb h o)
    | _,_=>none
   else none
  | _,_=>none
 | .slice t x lo hi none =>
  match opd M.nil D x,fR M.nil D lo,fR M.nil D hi with
  | some s,some l,some h=>iQ M D tab t s l h
  | _,_,_=>none
 | .call c=>vv M tab D c
 | _=>none
end
variable {P : Program} {tab : Tab}
theorem Tells.indexAddr (ok:a8 P tab) {cx:Cx} {D:DSt} {Pd:List (DT×Value)} {tm:Array Value} {w:World} (I:Inv cx D Pd tm w) {t:TypeId} {x s:DSl} {yx:Value} (hx:Tells cx D w x yx)
  {k:IntKind} {i:Int} (e:fv mkD D tab t x i=some s):∃ y,(Instr.indexAt t yx (.int k i)).run P w = .ok y w∧Tells cx D w s y:=by
 unfold fv at e
 split at e
 ·rename_i sz by_ ze el hti
  have hu:=ef (Tab.ok ok hti) rfl
  have hel:P.elem t=el:=by simp [Program.elem,hu]
  split at e
  ·rename_i kd d z rows
   split at e
   ·cases e
   rename_i hk
   split at e
   ·rename_i hz
    obtain ⟨te,hte,hze⟩:=o5 hz
    split at e
    ·rename_i hi
     rw [Option.map_eq_some_iff] at e
     obtain ⟨row,hrow,rfl⟩:=e
     have hsz:=iS (Tab.ok ok hte) w
     have hy:yx = .slice d.addr rows.length d.cap:=hx.val
     have hH:=hx.mem.1 (.s kd d z rows) (by simp [ai])
     have hlt:i.toNat<rows.length:=by
      rcases Nat.lt_or_ge i.toNat rows.length with g | g
      ·exact g
      ·rw [List.getElem?_eq_none g] at hrow;cases hrow
     cases hH with
     | e=>simp at hrow
     | s _ _ _ _ h hsp c e f hb hcap hz' hv hh =>
      rw [Dec.addr_none hsp,h] at hy
      simp only [Bool.false_eq_true,if_false] at hy
      refine ⟨.pointer (some ⟨d.b,d.o+i.toNat*z,none⟩),?_,⟨rfl,⟨?_,?_,?_⟩,?_,rfl⟩⟩
      ·rw [hy,run_indexAt_slice w t _ _ _ _ _ (by rw [hel];exact hu),if_pos ⟨hi,by omega⟩,hel,hsz]
       simp only [Result.andThen_ok,hze]
       unfold Addr.add
       split
       ·rename_i h0;simp [h0]
       ·rfl
      ·intro u hu'
       obtain ⟨j,hj⟩:=List.getElem?_of_mem hu'
       exact hh _ row j u hrow hj
      ·intro u hu' ho
       simp [rootsO] at hu'
      ·exact ⟨c,e,f,hb,fun j u hj=>hv _ row j u hrow hj⟩
      ·have hk':=hx.kind (.s kd d z rows) (by simp [ai])
       cases kd with
       | own=>exact absurd rfl hk
       | far=>exact ⟨hk' d.b (iM h),fun u hu' x hx'=>by
         obtain ⟨j,hj⟩:=List.getElem?_of_mem hu'
         exact hk' x (iq hrow hj hx')⟩
       | lent h' c' fl =>
        obtain ⟨t,h1,h2,h3,h3r⟩:=hk'
        exact ⟨t,h1,h2,h3 _ (iM h),fun u hu' x hx'=>by
         obtain ⟨j,hj⟩:=List.getElem?_of_mem hu'
         exact h3 x (iq hrow hj hx')⟩
    ·cases e
   ·cases e
  ·rename_i h c st lo len
   obtain ⟨d,z,n,a,hn,hle,hy,ha,ha0⟩:=hx.val
   have hnz:lL D h c st=some z:=by
    obtain ⟨t,h1,h2,k,rows,h3,h4⟩:=hn
    simp [lL,cf,h1,h3]
   rw [hnz] at e
   split at e
   ·rename_i hz
    obtain ⟨te,hte,hze⟩:=o5 hz
    split at e
    ·rename_i hi
     cases e
     have hsz:=iS (Tab.ok ok hte) w
     have hcap:n≤d.cap:=by
      obtain ⟨_,_,_,_,_,_,h4,h5,_⟩:=I.node hn
      rw [← h4];exact h5.cap
     rw [ha (by omega)] at hy
     refine ⟨.pointer (some ⟨d.b,d.o+(lo+i.toNat)*z,none⟩),?_,⟨⟨d,z,n,hn,by omega,rfl⟩,⟨fun t ht=>by simp [ai] at ht,fun t ht=>by simp [rootsO] at ht,trivial⟩,fun t ht=>by simp [ai] at ht,rfl⟩⟩
     rw [hy,run_indexAt_slice w t _ _ _ _ _ (by rw [hel];exact hu),if_pos ⟨hi.1,by omega⟩,hel,hsz]
     simp only [Result.andThen_ok,hze]
     unfold Addr.add
     split
     ·rename_i h0;rw [Nat.add_mul,h0];rfl
     ·rw [Nat.add_mul,Nat.add_assoc]
    ·cases e
   ·cases e
  ·cases e
 ·cases e
end Go.Proofs.YtgaiiephdjllkaaGreatDoor.Am
namespace Go.Proofs.YtgaiiephdjllkaaGreatDoor.Am
set_option linter.unusedVariables false
set_option linter.unusedSimpArgs false
open Go
variable {P : Program} {tab : Tab}
theorem Tells.fieldAddr (ok:a8 P tab) {cx:Cx} {D:DSt} {w:World} {t:TypeId} {x s:DSl} {yx:Value} (hx:Tells cx D w x yx) {f:Nat}
  (e:iK tab t x f=some s):∃ y,(Instr.fieldAt t yx f).run P w = .ok y w∧Tells cx D w s y:=by
 unfold iK at e
 split at e
 ·rename_i sz by_ ze offs hti
  obtain ⟨fs,hu,hoffs,hsz⟩:=FM (Tab.ok ok hti) rfl
  simp only [Option.bind_eq_some_iff] at e
  obtain ⟨o,ho,e⟩:=e
  rw [hoffs,List.getElem?_map,Option.map_eq_some_iff] at ho
  obtain ⟨fl,hfl,rfl⟩:=ho
  obtain ⟨i,hi,hin⟩:=hsz fl (by have:=List.mem_of_getElem? hfl;simpa using this)
  have key:∀ (b off:Nat),(Instr.fieldAt t (.pointer (some ⟨b,off,none⟩)) f).run P w = .ok (.pointer (some ⟨b,off+fl.offset,none⟩)) w:=by
   intro b off
   have hfl':fs[f]?=some fl:=by simpa using hfl
   have:Addr.add ⟨b,off,none⟩ fl.offset=⟨b,off+fl.offset,none⟩:=by
    unfold Addr.add;split<;>simp_all
   simp [Instr.fieldAt,run_underlying hu,hfl',Instr.sureAddr,fieldPlace,sizeOf,typeInfo,hi,hin,this]
  split at e
  ·cases e
   obtain ⟨b,ts,hb,hy⟩:=hx.val
   exact ⟨_,by rw [hy];exact key _ _,⟨⟨b,ts,hb,by rw [Nat.add_assoc]⟩,hx.mem,hx.kind,rfl⟩⟩
  ·cases e
   obtain ⟨d,z,n,hn,hin',hy⟩:=hx.val
   exact ⟨_,by rw [hy];exact key _ _,⟨⟨d,z,n,hn,hin',by rw [Nat.add_assoc]⟩,hx.mem,hx.kind,rfl⟩⟩
  ·rename_i k b ts off
   cases e
   have hy:yx = .pointer (some ⟨b.1,b.2+off,none⟩):=hx.val
   exact ⟨_,by rw [hy];exact key _ _,⟨by show _=_;rw [Nat.add_assoc],hx.mem,hx.kind,rfl⟩⟩
  ·cases e
 ·cases e
theorem Tells.len (ok:a8 P tab) {cx:Cx} {D:DSt} {w:World} {t:TypeId} {x:DSl} {yx:Value} (hx:Tells cx D w x yx) {n:Int}
  (e:qW tab t x=some n) (ty:TypeId):(Builtin.len_ #[t] ty #[yx]).run P w = .ok (.int .i64 n) w:=by
 unfold qW at e
 split at e
 ·rename_i sz by_ ze el hti
  have hu:=ef (Tab.ok ok hti) rfl
  have hel:P.elem t=el:=by simp [Program.elem,hu]
  split at e
  ·split at e
   ·cases e
   ·cases e
    have hy:=hx.val
    simp only [VS,VT] at hy
    rw [hy,run_len_slice w t ty _ _ _ (by rw [hel];exact hu)];rfl
  ·cases e
   obtain ⟨d,z,n,a,hn,hle,hy,ha,ha0⟩:=hx.val
   rw [hy,run_len_slice w t ty _ _ _ (by rw [hel];exact hu)];rfl
  ·cases e
 ·rename_i hti
  have hu:=qm (Tab.ok ok hti) rfl
  split at e
  ·cases e
   have hy:=hx.val.1
   rw [hy,run_len_string w t ty _ hu];rfl
  ·cases e
 ·cases e
theorem Hi {cx:Cx} {D:DSt} {w:World} {s:DSl} {y:Value} (h:Tells cx D w s y) (hp:vZ s=true):∃ a,y = .pointer (some a):=by
 cases s<;>simp [vZ] at hp
 ·obtain ⟨b,ts,_,hy⟩:=h.val;exact ⟨_,hy⟩
 ·obtain ⟨d,z,n,_,_,hy⟩:=h.val;exact ⟨_,hy⟩
 ·exact ⟨_,h.val⟩
theorem uh {cx:Cx} {D:DSt} {Pd:List (DT×Value)} {a:Act} {w:World} (I:Inv cx D Pd a.tmps w) {x:Option Operand} {n:Option Int} (h:fR nilD D x=some n) :
  ∃ p:Option (IntKind×Int),n=p.map Prod.snd∧x.map a.eval=bV p:=by
 unfold fR at h
 split at h
 ·cases h;exact ⟨none,rfl,rfl⟩
 ·rename_i x
  split at h
  ·rename_i k n' e
   cases h
   have:=(I.opd e).val.1
   exact ⟨some (k,n'),rfl,by simp only [Option.map_some];rw [show a.eval x=_ from this]⟩
  ·cases h
theorem GX (ok:a8 P tab) {op:BinOp} {t:Nat} {us vs:List DT} {xs ys:Array Value} (hx:VCells us xs.toList) (hy:VCells vs ys.toList) {z:Value} (e:eqS tab op t us vs=some z) (x y:Operand) (w:World) :
  (do eqGuard op t x y (.agg xs) (.agg ys);binOp op t (.agg xs) (.agg ys):Sem Value).run P w = .ok z w∧z.oneCell'=true:=by
 have key:∀ {b:Bool},(tab.eq t).bind (gJ tab us vs)=some b→(∀ op',(eqGuard op' t x y (.agg xs) (.agg ys)).run P w = .ok () w)∧(Op.equalIn 10000 t (.agg xs) (.agg ys)).run P w = .ok b w:=by
  intro b h
  rw [Option.bind_eq_some_iff] at h
  obtain ⟨l,h1,h2⟩:=h
  have h3:=Tab.okEq ok h1
  unfold De at h3
  split at h3
  ·rename_i fs hu
   split at h3
   ·rename_i hc
    cases h3
    refine ⟨fun op'=>run_eqGuard_agg w op' t x y xs ys hc.2.1,?_⟩
    have hf:P.fieldsOf t=fs:=by simp [Program.fieldsOf,hu]
    rw [run_equalIn_struct (P:=P) w 9999 t xs ys (by rw [hf];exact hu) hc.1,hf]
    have hn : ∀ f ∈ fs.toList, (f.name == "_") = false := by
     intro f hf'
     have:=hc.2.2
     rw [Array.all_eq_true_iff_forall_mem] at this
     have:=this f (by simpa using hf')
     simpa using this
    exact tX ok (fun i u y hi hy'=>hx.2 i u y hi (by simpa using hy')) (fun i u y hi hy'=>hy.2 i u y hi (by simpa using hy')) (by simpa using hx.1) (by simpa using hy.1) 9998 w fs.toList hn h2
   ·cases h3
  ·cases h3
 unfold eqS at e
 split at e
 ·rw [Option.map_eq_some_iff] at e
  obtain ⟨b,h1,rfl⟩:=e
  obtain ⟨g1,g2⟩:=key h1
  refine ⟨?_,rfl⟩
  simp only [Sem.run_bind,g1,Result.andThen_ok]
  rw [run_eql_struct,g2];rfl
 ·rw [Option.map_eq_some_iff] at e
  obtain ⟨b,h1,rfl⟩:=e
  obtain ⟨g1,g2⟩:=key h1
  refine ⟨?_,rfl⟩
  simp only [Sem.run_bind,g1,Result.andThen_ok]
  rw [run_neq_struct,g2];rfl
 ·cases e
theorem Tells.indexArr {P:Program} {tab:Tab} (ok:a8 P tab) {cx:Cx} {D:DSt} {w:World} {t:TypeId} {offs hs:List Nat} {yx:Value} (hx:Tells cx D w (.clo (.arr offs) hs) yx) {k:IntKind} {n:Int} (h0:0≤n)
  (ht:tab.ars.lookup t=some hs.length) (hl:offs.length=hs.length) {h o:Nat} (hh:hs[n.toNat]?=some h) (ho:offs[n.toNat]?=some o) :
  ∃ y,(Instr.index t yx (.int k n)).run P w = .ok y w∧Tells cx D w (.pb h o) y:=by
 have har:=ok.ars _ (fd ht)
 obtain ⟨bs,b1,b2,b3⟩:=hx.val
 have hlt:n.toNat<hs.length:=by
  rcases Nat.lt_or_ge n.toNat hs.length with g | g
  ·exact g
  ·rw [List.getElem?_eq_none g] at hh;cases hh
 have hb:bs[n.toNat]?=some bs[n.toNat]:=List.getElem?_eq_getElem (by omega)
 obtain ⟨ts,hD⟩:=b2 _ _ _ hh hb
 unfold FU at har
 split at har
 case h_2=>cases har
 rename_i len e hu
 split at har
 case h_2=>cases har
 rename_i pe i hue hie
 split at har
 case isFalse=>cases har
 rename_i hsz
 cases har
 have hcell:((bs.zip offs).map fun p=>Value.pointer (some ⟨p.1.1,p.1.2+p.2,none⟩)).toArray[n.toNat]?=some (Value.pointer (some ⟨bs[n.toNat].1,bs[n.toNat].2+o,none⟩)):=by
  have hz:(bs.zip offs)[n.toNat]?=some (bs[n.toNat],o):=by rw [List.getElem?_zip_eq_some];exact ⟨hb,ho⟩
  rw [List.getElem?_toArray,List.getElem?_map,hz]
  rfl
 refine ⟨.pointer (some ⟨bs[n.toNat].1,bs[n.toNat].2+o,none⟩),?_,⟨⟨_,ts,hD,rfl⟩,⟨fun u hu=>by simp [ai] at hu,fun u hu=>by simp [rootsO] at hu,trivial⟩,fun u hu=>by simp [ai] at hu,rfl⟩⟩
 rw [b3]
 have hlen:(0≤n∧n<(hs.length:Int)):=⟨h0,by omega⟩
 simp only [zp] at hcell ⊢
 generalize (List.map (fun p=>Value.pointer (some ⟨p.1.1,p.1.2+p.2,none⟩)) (bs.zip offs)).toArray=arr at hcell ⊢
 simp [Instr.index,asIntOf,Go.underlying,hu,hlen,part,isAgg,hue,sizeOf,typeInfo,hie,hsz,hcell]
theorem my (ok:a8 P tab) {cx:Cx} {D:DSt} {a:Act} {w:World} (I:Inv cx D [] a.tmps w) {o:Oper} {s:DSl} (e:bA mkD tab D o.op=some s) :
  ∃ y,(execOp a.eval o).run P w = .ok (.value y) w∧Tells cx D w s y:=by
 have hO:∀ {x:Operand} {s:DSl},opd mkD.nil D x=some s→Tells cx D w s (a.eval x):=fun h=>I.opd h
 have one:∀ {x:Operand} {v:Value},opd mkD.nil D x=some (.one (.v v))→a.eval x=v:=fun h=>(I.opd h).val.1
 unfold bA at e
 split at e
 ·rename_i x hop
  exact ⟨_,by simp [execOp,hop],hO e⟩
 ·rename_i x hop
  exact ⟨_,by simp [execOp,hop],hO e⟩
 ·rename_i c x y hop
  split at e
  ·rename_i hc
   exact ⟨_,by simp [execOp,hop,one hc,asBool],hO e⟩
  ·rename_i hc
   exact ⟨_,by simp [execOp,hop,one hc,asBool],hO e⟩
  ·cases e
 ·rename_i x hop
  simp only [Option.bind_eq_some_iff] at e
  obtain ⟨s',hs,e⟩:=e
  split at e
  ·rename_i hp
   cases e
   obtain ⟨ad,had⟩:=Hi (hO hs) hp
   exact ⟨a.eval x,by simp [execOp,hop,had],hO hs⟩
  ·cases e
 ·rename_i op t x y ty hop
  split at e
  ·rename_i va vb ha hb
   rw [Option.map_eq_some_iff] at e
   obtain ⟨z,hz,rfl⟩:=e
   have:=FW ok x y w hz
   refine ⟨z,?_,.one_v _ (FV hz)⟩
   simp only [execOp,hop,one ha,one hb]
   simp only [Sem.run_bind] at this ⊢
   rw [this];rfl
  ·rename_i us vs ha hb
   rw [Option.map_eq_some_iff] at e
   obtain ⟨z,hz,rfl⟩:=e
   obtain ⟨xs,hx,hxv⟩:=(hO ha).val
   obtain ⟨ys,hy,hyv⟩:=(hO hb).val
   obtain ⟨h1,h2⟩:=GX ok (op:=op) (t:=t) hxv hyv hz x y w
   refine ⟨z,?_,.one_v _ h2⟩
   simp only [execOp,hop,hx,hy]
   simp only [Sem.run_bind] at h1 ⊢
   rw [h1];rfl
  ·cases e
 ·rename_i op t x hop
  split at e
  ·rename_i b hb
   split at e
   ·cases e
    exact ⟨_,by simp [execOp,hop,one hb,Op.unary],.one_v _ rfl⟩
   ·cases e
  ·rename_i k n hb
   split at e
   ·cases e
    exact ⟨_,by simp [execOp,hop,one hb,Op.unary,Op.intArith],.one_v _ rfl⟩
   ·cases e
  ·cases e
 ·rename_i src dst x hop
  split at e
  ·rename_i k n ts sz by_ ze k' hx hs hd
   cases e
   have h1:=wr (Tab.ok ok hd) rfl
   obtain ⟨i,d,z,g1,g2,_⟩:=ey (Tab.ok ok hs)
   have hk:P.intKind dst=k':=by simp [Program.intKind,h1]
   refine ⟨_,?_,.one_v _ rfl⟩
   simp only [execOp,hop,one hx,Sem.run_bind]
   rw [run_convert_int w src dst k n (by simp [g2]) (by rw [hk];exact h1)]
   simp [hk]
  ·cases e
 ·rename_i t x hop
  split at e
  ·rename_i p ti hp hti
   split at e
   ·cases e
   ·rename_i hno
    obtain ⟨y,h1,h2⟩:=Tells.load I (Tab.ok ok hti) hno (hO hp) e
    exact ⟨y,by simp [execOp,hop,h1],h2⟩
  ·cases e
 ·rename_i t x f hop
  simp only [Option.bind_eq_some_iff] at e
  obtain ⟨p,hp,e⟩:=e
  obtain ⟨y,h1,h2⟩:=Tells.fieldAddr ok (hO hp) e
  exact ⟨y,by simp [execOp,hop,h1],h2⟩
 ·rename_i t x i hop
  split at e
  ·rename_i p k n hp hn
   obtain ⟨y,h1,h2⟩:=Tells.indexAddr ok I (hO hp) (k:=k) e
   exact ⟨y,by simp [execOp,hop,one hn,h1],h2⟩
  ·cases e
 ·rename_i t x i hop
  split at e
  ·rename_i str k n hs hn
   split at e
   ·rename_i hti
    obtain ⟨ti,hti,hsh⟩:=GP hti
    have hu:=qm (Tab.ok ok hti) hsh
    split at e
    ·rename_i hb
     cases e
     refine ⟨.int .u8 (fk str n),?_,.one_v _ rfl⟩
     have hlt:n.toNat<str.size:=by omega
     simp only [execOp,hop,one hs,one hn,Sem.run_bind]
     have:=run_index_string (P:=P) w t str k n hu
     rw [this]
     simp [hb.1,hb.2,fk]
    ·cases e
   ·cases e
  ·rename_i offs hs k n hp hn
   split at e
   case isFalse=>cases e
   rename_i hc
   split at e
   case h_2=>cases e
   rename_i h o hh ho
   cases e
   obtain ⟨y,h1,h2⟩:=Tells.indexArr ok (hO hp) (k:=k) hc.1 hc.2.1 hc.2.2 hh ho
   exact ⟨y,by simp [execOp,hop,one hn,h1],h2⟩
  ·cases e
 ·rename_i t x lo hi hop
  split at e
  ·rename_i s' l h hs hl hh
   obtain ⟨pl,rfl,hl'⟩:=uh I hl
   obtain ⟨ph,rfl,hh'⟩:=uh I hh
   obtain ⟨y,h1,h2⟩:=Tells.slice ok I (hO hs) pl ph e
   exact ⟨y,by simp [execOp,hop,hl',hh',h1],h2⟩
  ·cases e
 ·rename_i c hop
  unfold vv at e
  split at e
  ·rename_i x t hc hargs htys
   obtain ⟨cal,args,tys⟩:=c
   simp only at hc hargs htys
   obtain rfl:args = #[x]:=by rw [← Array.toList_inj];exact hargs
   obtain rfl:tys = #[t]:=by rw [← Array.toList_inj];exact htys
   subst hc
   simp only [Option.bind_eq_some_iff] at e
   obtain ⟨p,hp,e⟩:=e
   rw [Option.map_eq_some_iff] at e
   obtain ⟨n,hn,rfl⟩:=e
   have:=Tells.len ok (hO hp) hn o.type
   exact ⟨_,by simp [execOp,hop,resolve,invoke,builtin,this],.one_v _ rfl⟩
  ·rename_i ts x y hc hargs
   obtain ⟨cal,args,tys⟩:=c
   simp only at hc hargs
   obtain rfl:args = #[x,y]:=by rw [← Array.toList_inj];exact hargs
   subst hc
   split at e
   ·rename_i k va k' vb ha hb
    cases e
    have:=run_max_int2 (P:=P) w tys o.type k k' va vb
    exact ⟨_,by simp [execOp,hop,resolve,invoke,builtin,one ha,one hb,this],.one_v _ rfl⟩
   ·cases e
  ·rename_i ts x y hc hargs
   obtain ⟨cal,args,tys⟩:=c
   simp only at hc hargs
   obtain rfl:args = #[x,y]:=by rw [← Array.toList_inj];exact hargs
   subst hc
   split at e
   ·rename_i k va k' vb ha hb
    cases e
    have:=run_min_int2 (P:=P) w tys o.type k k' va vb
    exact ⟨_,by simp [execOp,hop,resolve,invoke,builtin,one ha,one hb,this],.one_v _ rfl⟩
   ·cases e
  ·cases e
 ·cases e
end Go.Proofs.YtgaiiephdjllkaaGreatDoor.Am
namespace Go.Proofs.YtgaiiephdjllkaaGreatDoor.Am
set_option linter.unusedVariables false
set_option linter.unusedSimpArgs false
open Go
def i7 (t:DT) (st:List (Nat×Nat)) (d:Dec) (z n:Nat):Prop:=∃ k rows,getN t st=some (.s k d z rows)∧rows.length=n
def l3 (h c:Nat) (st:List (Nat×Nat)):DSl→Prop
 | .al h' c' st' _ _=>h'=h∧c'=c∧st'=st
 | .pe h' c' st' _ _=>h'=h∧c'=c∧st'=st
 | _=>False
def mH (h c:Nat) (s:DSl):Prop :=
 (∃ fl b ts off,s = .im (.lent h c fl) b ts off)∨∃ fl d z r,(.s (.lent h c fl) d z r:DT)∈rootsO s
theorem sD {s:DSl} {cs cs':List DT} (h:aI s=some cs) (hl:cs'.length=cs.length):aI (setCells cs' s)=some cs':=by
 cases s with
 | one t=>cases h;obtain ⟨u,rfl⟩:=List.length_eq_one_iff.1 hl;rfl
 | agg ts=>rfl
 | box b ts=>rfl
 | _=>cases h
theorem gP {s:DSl} {cs:List DT} (h:aI s=some cs):ai s=cs∧rootsO s=cs:=by
 cases s<;>cases h<;>exact ⟨rfl,rfl⟩
theorem xn {D D':DSt} {h c:Nat} {t':DT} (e:et D h c t'=some D') :
  ∃ s cs,D[h]?=some s∧aI s=some cs∧D'=D.set h (setCells (cs.set c t') s):=by
 unfold et at e
 split at e
 ·rename_i s hs
  rw [Option.map_eq_some_iff] at e
  obtain ⟨cs,hcs,rfl⟩:=e
  exact ⟨s,cs,hs,hcs,rfl⟩
 ·cases e
def pJ (b:Nat):DSl→Nat
 | .box b' _=>[b'.1].count b
 | _=>0
theorem lO {s:DSl} {cs:List DT} (h:aI s=some cs) (b:Nat):(ownBl s).count b=pJ b s+(cs.flatMap ownR).count b:=by
 cases s with
 | one t=>cases h;simp [ownBl,pJ]
 | agg ts=>cases h;simp [ownBl,pJ]
 | box b' ts=>cases h;rw [pJ, ← List.count_append];rfl
 | _=>cases h
structure HV (cx:Cx) (D:DSt) (P P':List (DT×Value)) (w w':World) (h c:Nat) (t t':DT):Prop where
 at_:am D h c=some t
 own:t.isOwn=true
 holds:Holds w' t'
 ownT:t'.isOwn=true→OwnT w' t'
 kind:t'.isOwn=true∨t' = .any
 val:∀ y,VT t y→VT t' y
 cnt:∀ b,(ownR t').count b+aE P' b≤(if b<w.heap.size then (ownR t).count b+aE P b else 1)
 new:∀ b,w.heap.size≤b→0<(ownR t').count b+aE P' b→b<w'.heap.size
 hides:∀ s∈D,¬ mH h c s
 speak:∀ s∈D,∀ st,l3 h c st s→t'.isOwn=true∧∀ d z n,i7 t st d z n→i7 t' st d z n
 size:w.heap.size≤w'.heap.size
 same:∀ b,b<w.heap.size→b∉bl t→w'.heap[b]?=w.heap[b]?
 os:w'.os=w.os
 tape:w'.tape=w.tape
 output:w'.output=w.output
 pend:∀ p∈P',VT p.1 p.2∧Holds w' p.1∧(p.1.isOwn=true→OwnT w' p.1)∧(p.1.isOwn=false→∀ x∈bl p.1,cx.far x)
theorem bU {D:DSt} {s:DSl} {b:Nat} (hs:s∈D) (hb:b∈ownBl s):0<aZ D b:=by
 unfold aZ
 exact List.count_pos_iff.2 (List.mem_flatMap.2 ⟨s,hs,hb⟩)
theorem Inv.apart {cx:Cx} {D:DSt} {P:List (DT×Value)} {tm:Array Value} {w:World} (I:Inv cx D P tm w) {u v:Nat} {s s':DSl} (hne:u≠v) (hs:D[u]?=some s) (hs':D[v]?=some s')
  {b:Nat} (hb:b∈ownBl s) (hb':b∈ownBl s'):False:=by
 have h1:=bj ownBl (Sl.any:DSl) b D u s hs
 have h0:(ownBl (Sl.any:DSl)).count b=0:=rfl
 have h2:0<((D.set u .any).flatMap ownBl).count b:=by
  refine List.count_pos_iff.2 (List.mem_flatMap.2 ⟨s',?_,hb'⟩)
  refine List.mem_of_getElem? (i:=v) ?_
  rw [List.getElem?_set_ne hne];exact hs'
 have h3:=I.once b
 have h4:0<(ownBl s).count b:=List.count_pos_iff.2 hb
 unfold aZ at h3
 omega
theorem Dv {ts:List DT} {b:Nat} (hc:(ts.flatMap ownR).count b≤1) {i j:Nat} {u v:DT} (hij:i≠j) (hi:ts[i]?=some u) (hj:ts[j]?=some v) (hu:b∈ownR u) (hv:b∈ownR v):False:=by
 have h1:=bj ownR (T.any:DT) b ts i u hi
 have h0:(ownR (T.any:DT)).count b=0:=rfl
 have h2:0<((ts.set i .any).flatMap ownR).count b:=by
  refine List.count_pos_iff.2 (List.mem_flatMap.2 ⟨v,?_,hv⟩)
  refine List.mem_of_getElem? (i:=j) ?_
  rw [List.getElem?_set_ne hij];exact hj
 have h4:0<(ownR u).count b:=List.count_pos_iff.2 hu
 omega
theorem Inv.cells_once {cx:Cx} {D:DSt} {P:List (DT×Value)} {tm:Array Value} {w:World} (I:Inv cx D P tm w) {h:Nat} {s:DSl} {cs:List DT} (hs:D[h]?=some s) (hc:aI s=some cs) (b:Nat) :
  (cs.flatMap ownR).count b≤1:=by
 have h1:=lO hc b
 have h2:=I.once b
 have h3:=bj ownBl (Sl.any:DSl) b D h s hs
 have h0:(ownBl (Sl.any:DSl)).count b=0:=rfl
 unfold aZ at h2
 omega
theorem Inv.owner {cx:Cx} {D:DSt} {P:List (DT×Value)} {tm:Array Value} {w:World} (I:Inv cx D P tm w) {h c:Nat} {t:DT} (hc:am D h c=some t) (ho:t.isOwn=true)
  {h' c':Nat} {t':DT} (hc':am D h' c'=some t') (ho':t'.isOwn=true) {b:Nat} (hb:b∈bl t) (hb':b∈bl t'):h'=h∧c'=c:=by
 obtain ⟨s,h1,h2,h3,h3',h4⟩:=bD hc
 obtain ⟨s',g1,g2,g3,g3',g4⟩:=bD hc'
 by_cases e:h'=h
 ·subst e
  refine ⟨rfl,?_⟩
  by_cases ec:c'=c
  ·exact ec
  ·exfalso
   unfold am at hc hc'
   simp only [Option.bind_eq_some_iff] at hc hc'
   obtain ⟨cs,⟨s1,k1,k2⟩,k3⟩:=hc
   obtain ⟨cs',⟨s2,k1',k2'⟩,k3'⟩:=hc'
   rw [k1] at k1';cases k1'
   rw [k2] at k2';cases k2'
   exact Dv (ts:=cs) (I.cells_once k1 k2 b) ec k3' k3 (by simp [ownR,ho',hb']) (by simp [ownR,ho,hb])
 ·exact (I.apart e g1 h1 (g4 ho' b hb') (h4 ho b hb)).elim
theorem Inv.root_out {cx:Cx} {D:DSt} {P:List (DT×Value)} {tm:Array Value} {w:World} (I:Inv cx D P tm w) {h c:Nat} {t:DT} (hc:am D h c=some t) (ho:t.isOwn=true)
  {u:Nat} {s:DSl} (hs:D[u]?=some s) (hsh:¬ mH h c s) {v:DT} (hv:v∈ai s) (hne:u=h→∃ (i:Nat) (cs:List DT),aI s=some cs∧cs[i]?=some v∧i≠c) {b:Nat} (hb:b∈bl v) (hbt:b∈bl t):False:=by
 obtain ⟨sh,hsh',hshm,hrt,hrt',hbo⟩:=bD hc
 have hmay:=(I.bnd b (by have:=bU hshm (hbo ho b hbt);omega)).1
 have hk:=I.kind s (List.mem_of_getElem? hs)
 have notim:v∈rootsO s→bg cx D v→(v.isOwn=true→False)→False:=by
  intro hvo hkv hov
  cases v with
  | v x=>simp [bl] at hb
  | any=>simp [bl] at hb
  | s k d z r =>
   cases k with
   | far=>exact Cx.far_not (hkv b hb) hmay
   | lent h' c' fl =>
    obtain ⟨t',g1,g2,g3,g3r⟩:=hkv
    obtain ⟨rfl,rfl⟩:=I.owner hc ho g1 g2 hbt (g3 b hb)
    exact hsh (.inr ⟨fl,d,z,r,hvo⟩)
   | own=>exact hov rfl
 have home:∀ cs,aI s=some cs→v.isOwn=true→False:=by
  intro cs hcs hov
  by_cases e:u=h
  ·obtain ⟨i,cs',hcs',hi,hic⟩:=hne e
   have hci:am D u i=some v:=by simp [am,hs,hcs',hi]
   exact hic (I.owner hc ho hci hov hbt hb).2
  ·rw [(gP hcs).1] at hv
   obtain ⟨i,hi⟩:=List.getElem?_of_mem hv
   have hci:am D u i=some v:=by simp [am,hs,hcs,hi]
   exact e (I.owner hc ho hci hov hbt hb).1
 cases s with
 | one x=>exact notim hv (hk v hv) (home _ rfl)
 | agg x=>exact notim hv (hk v hv) (home _ rfl)
 | box b' x=>exact notim hv (hk v hv) (home _ rfl)
 | tup rs =>
  refine notim hv (hk v hv) fun hov => ?_
  have hbu:b∈ownBl (.tup rs:DSl):=by
   simp only [ai,List.mem_flatMap] at hv
   obtain ⟨p,hp,hv⟩:=hv
   simp only [ownBl,List.mem_flatMap]
   exact ⟨p,hp,v,hv,by simp [ownR,hov,hb]⟩
  by_cases e:u=h
  ·subst e
   rw [hs] at hsh';cases hsh'
   simp [am,hs,aI] at hc
  ·exact I.apart e hs hsh' hbu (hbo ho b hbt)
 | im k b' ts off =>
  have hk':lj cx D k b'.1 ts:=hk
  cases k with
  | own=>exact hk'
  | far=>exact Cx.far_not (hk'.2 v hv b hb) hmay
  | lent h' c' fl =>
   obtain ⟨t',g1,g2,g3,g4⟩:=hk'
   obtain ⟨rfl,rfl⟩:=I.owner hc ho g1 g2 hbt (g4 v hv b hb)
   exact hsh (.inl ⟨fl,b',ts,off,rfl⟩)
 | fni f caps =>
  simp only [ai,List.mem_flatMap] at hv
  obtain ⟨p,hp,hv⟩:=hv
  exact Cx.far_not ((hk p hp).2 v hv b hb) hmay
 | any=>simp [ai] at hv
 | al=>simp [ai] at hv
 | pe=>simp [ai] at hv
 | pb=>simp [ai] at hv
 | clo=>simp [ai] at hv
end Go.Proofs.YtgaiiephdjllkaaGreatDoor.Am
namespace Go.Proofs.YtgaiiephdjllkaaGreatDoor.Am
set_option linter.unusedVariables false
set_option linter.unusedSimpArgs false
open Go
theorem gT {h c:Nat} {s:DSl} (hs:¬ mH h c s):∀ fl d z r,(.s (.lent h c fl) d z r:DT)∉rootsO s :=
 fun fl d z r hm=>hs (.inr ⟨fl,d,z,r,hm⟩)
theorem Inv.upd {cx:Cx} {D D':DSt} {P P':List (DT×Value)} {tm:Array Value} {w w':World} (I:Inv cx D P tm w) {h c:Nat} {t t':DT} (e:et D h c t'=some D')
  (U:HV cx D P P' w w' h c t t'):Inv cx D' P' tm w':=by
 obtain ⟨s0,cs,hs0,hcs,rfl⟩:=xn e
 have hat:=U.at_
 have hct:cs[c]?=some t:=by
  have:=U.at_
  simp only [am,hs0,Option.bind_some,hcs] at this;exact this
 have hlen:(cs.set c t').length=cs.length:=by simp
 have hlt:h<D.length:=by
  rcases Nat.lt_or_ge h D.length with g | g
  ·exact g
  ·rw [List.getElem?_eq_none g] at hs0;cases hs0
 have hclt:c<cs.length:=by
  rcases Nat.lt_or_ge c cs.length with g | g
  ·exact g
  ·rw [List.getElem?_eq_none g] at hct;cases hct
 have hhome:=sD hcs hlen
 have hs0m:=List.mem_of_getElem? hs0
 have cell_other:∀ h' c',¬ (h'=h∧c'=c)→am (D.set h (setCells (cs.set c t') s0)) h' c'=am D h' c':=by
  intro h' c' hne
  by_cases e:h'=h
  ·subst e
   have hc':c'≠c:=fun g=>hne ⟨rfl,g⟩
   unfold am
   rw [List.getElem?_set_self hlt,hs0]
   simp only [Option.bind_some,hhome,hcs]
   rw [List.getElem?_set_ne (fun g=>hc' g.symm)]
  ·exact jz e
 have cell_same:am (D.set h (setCells (cs.set c t') s0)) h c=some t':=by
  unfold am
  rw [List.getElem?_set_self hlt]
  simp only [Option.bind_some,hhome]
  rw [List.getElem?_set_self hclt]
 have hcnt:∀ b,aZ (D.set h (setCells (cs.set c t') s0)) b+(ownR t).count b=aZ D b+(ownR t').count b:=by
  intro b
  have h1:=bj ownBl (setCells (cs.set c t') s0) b D h s0 hs0
  have h2:=lO hcs b
  have h3:=lO hhome b
  have h4:=bj ownR t' b cs c t hct
  have h5:pJ b (setCells (cs.set c t') s0)=pJ b s0:=by
   cases s0<;>rfl
  rw [h5] at h3
  unfold aZ
  omega
 have hsh:∀ (u:Nat) (s:DSl),D[u]?=some s→¬ mH h c s:=fun u s hs=>U.hides s (List.mem_of_getElem? hs)
 have blk:∀ b∈bl t,cx.may b:=by
  intro b hb
  obtain ⟨sh,g1,g2,g3,g3',g4⟩:=bD hat
  exact (I.bnd b (by have:=bU g2 (g4 U.own b hb);omega)).1
 have box_out:∀ (u:Nat) (b':Nat×Nat) (ts:List DT),D[u]?=some (.box b' ts)→b'.1∉bl t:=by
  intro u b' ts hb hm
  obtain ⟨sh,g1,g2,g3,g3',g4⟩:=bD hat
  by_cases e:u=h
  ·subst e
   rw [hs0] at hb;cases hb
   cases hcs
   have h1:=I.once b'.1
   have h2:(ownBl (.box b' cs:DSl)).count b'.1=1+(cs.flatMap ownR).count b'.1:=by simp [ownBl,Nat.add_comm]
   have h3:=bj ownBl (Sl.any:DSl) b'.1 D u _ hs0
   have h0:(ownBl (Sl.any:DSl)).count b'.1=0:=rfl
   have h4:0<(cs.flatMap ownR).count b'.1:=List.count_pos_iff.2 (List.mem_flatMap.2 ⟨t,List.mem_of_getElem? hct,by simp [ownR,U.own,hm]⟩)
   unfold aZ at h1
   omega
  ·exact I.apart e hb g1 (by simp [ownBl]) (g4 U.own _ hm)
 have fr:∀ {v:DT},(∀ b∈bl v,b∈bl t→False)→∀ b∈bl v,b<w.heap.size→w'.heap[b]?=w.heap[b]?:=fun h b hb hlt=>U.same b hlt fun hbt=>h b hb hbt
 have lies:∀ {b:Nat×Nat} {ts:List DT},b.1∉bl t→Lies w b ts→Lies w' b ts:=by
  rintro b ts hb ⟨c',e',f,h1,h2⟩
  exact ⟨c',e',f,by rw [U.same _ (cO h1) hb];exact h1,h2⟩
 refine ⟨by have:=I.size;simpa using this,?_,?_,?_,U.pend,?_,?_,?_⟩
 ·intro u s hs
  have vs:∀ (s:DSl),s∈D→∀ y,VS D s y→VS (D.set h (setCells (cs.set c t') s0)) s y:=by
   intro s hsm y hv
   have nd:∀ h' c' st d z n,l3 h' c' st s→dt D h' c' st d z n→dt (D.set h (setCells (cs.set c t') s0)) h' c' st d z n:=by
    intro h' c' st d z n hsp hn
    by_cases e:h'=h∧c'=c
    ·obtain ⟨rfl,rfl⟩:=e
     obtain ⟨t1,k1,k2,k3⟩:=hn
     rw [hat] at k1;cases k1
     obtain ⟨g1,g2⟩:=U.speak s hsm st hsp
     exact ⟨t',cell_same,g1,g2 d z n k3⟩
    ·unfold dt;rw [cell_other h' c' e];exact hn
   have bx:∀ (h':Nat) (b:Nat×Nat) (ts:List DT),D[h']?=some (.box b ts)→∃ ts',(D.set h (setCells (cs.set c t') s0))[h']?=some (.box b ts'):=by
    intro h' b ts hb
    by_cases e:h'=h
    ·subst e
     rw [hs0] at hb;cases hb
     exact ⟨_,by rw [List.getElem?_set_self hlt];rfl⟩
    ·exact ⟨ts,by rw [List.getElem?_set_ne (fun g=>e g.symm)];exact hb⟩
   cases s with
   | al h' c' st lo len =>
    obtain ⟨d,z,n,a,k1,k2⟩:=hv
    exact ⟨d,z,n,a,nd h' c' st d z n ⟨rfl,rfl,rfl⟩ k1,k2⟩
   | pe h' c' st i off =>
    obtain ⟨d,z,n,k1,k2⟩:=hv
    exact ⟨d,z,n,nd h' c' st d z n ⟨rfl,rfl,rfl⟩ k1,k2⟩
   | pb h' off =>
    obtain ⟨b,ts,k1,k2⟩:=hv
    obtain ⟨ts',k3⟩:=bx _ _ _ k1
    exact ⟨b,ts',k3,k2⟩
   | clo f hs =>
    obtain ⟨bs,k1,k2,k3⟩:=hv
    exact ⟨bs,k1,fun i h b hi hb=>by obtain ⟨ts,k4⟩:=k2 i h b hi hb;exact bx _ _ _ k4,k3⟩
   | _=>exact hv
  by_cases eu:u=h
  ·subst eu
   rw [List.getElem?_set_self hlt] at hs
   cases hs
   have hv:=I.val u s0 hs0
   have cells:∀ ys:List Value,VCells cs ys→VCells (cs.set c t') ys:=by
    rintro ys ⟨k1,k2⟩
    refine ⟨by simpa using k1,fun i v y hi hy => ?_⟩
    by_cases ei:i=c
    ·subst ei
     rw [List.getElem?_set_self hclt] at hi
     cases hi
     exact U.val y (k2 i t y hct hy)
    ·rw [List.getElem?_set_ne (fun g=>ei g.symm)] at hi
     exact k2 i v y hi hy
   cases s0 with
   | one x =>
    cases hcs
    have:c=0:=by simp at hclt;exact hclt
    subst this
    simp at hct;subst hct
    exact U.val _ hv
   | agg ts =>
    cases hcs
    obtain ⟨ys,k1,k2⟩:=hv
    exact ⟨ys,k1,cells _ k2⟩
   | box b ts=>exact hv
   | _=>cases hcs
  ·rw [List.getElem?_set_ne (fun g=>eu g.symm)] at hs
   exact vs s (List.mem_of_getElem? hs) _ (I.val u s hs)
 ·intro s hs
  obtain ⟨u,hu⟩:=List.getElem?_of_mem hs
  by_cases eu:u=h
  ·subst eu
   rw [List.getElem?_set_self hlt] at hu
   cases hu
   have hm:=I.mem s0 hs0m
   have hr:=gP hcs
   have hr':=gP hhome
   have out:∀ i v,cs[i]?=some v→i≠c→∀ b∈bl v,b∈bl t→False:=by
    intro i v hi hic b hb hbt
    exact I.root_out hat U.own hs0 (hsh _ _ hs0) (v:=v) (by rw [hr.1];exact List.mem_of_getElem? hi) (fun _=>⟨i,cs,hcs,hi,hic⟩) hb hbt
   refine ⟨?_,?_,?_⟩
   ·intro v hv
    rw [hr'.1] at hv
    obtain ⟨i,hi⟩:=List.getElem?_of_mem hv
    by_cases ei:i=c
    ·subst ei
     rw [List.getElem?_set_self hclt] at hi
     cases hi
     exact U.holds
    ·rw [List.getElem?_set_ne (fun g=>ei g.symm)] at hi
     exact (hm.1 v (by rw [hr.1];exact List.mem_of_getElem? hi)).frame (fr (out i v hi ei))
   ·intro v hv ho
    rw [hr'.2] at hv
    obtain ⟨i,hi⟩:=List.getElem?_of_mem hv
    by_cases ei:i=c
    ·subst ei
     rw [List.getElem?_set_self hclt] at hi
     cases hi
     exact U.ownT ho
    ·rw [List.getElem?_set_ne (fun g=>ei g.symm)] at hi
     exact (hm.2.1 v (by rw [hr.2];exact List.mem_of_getElem? hi) ho).frame (fr (out i v hi ei))
   ·cases s0 with
    | box b ts =>
     cases hcs
     have hb:=box_out u b _ hs0
     obtain ⟨k1,k2⟩:=hm.2.2
     refine ⟨?_,?_⟩
     ·obtain ⟨c',e',f,g1,g2⟩:=lies hb k1
      refine ⟨c',e',f,g1,fun j v hj => ?_⟩
      by_cases ej:j=c
      ·subst ej
       rw [List.getElem?_set_self hclt] at hj
       cases hj
       obtain ⟨y,g3,g4⟩:=g2 j t hct
       exact ⟨y,g3,U.val y g4⟩
      ·rw [List.getElem?_set_ne (fun g=>ej g.symm)] at hj
       exact g2 j v hj
     ·intro c' e' lo hi g1
      rw [U.same _ k1.lt hb] at g1
      simpa using k2 c' e' lo hi g1
    | one x=>trivial
    | agg x=>trivial
    | _=>cases hcs
  ·rw [List.getElem?_set_ne (fun g=>eu g.symm)] at hu
   have hm:=I.mem s (List.mem_of_getElem? hu)
   have out:∀ v∈ai s,∀ b∈bl v,b∈bl t→False:=fun v hv b hb hbt =>
    I.root_out hat U.own hu (hsh _ _ hu) hv (fun g=>absurd g eu) hb hbt
   refine ⟨fun v hv=>(hm.1 v hv).frame (fr (out v hv)),fun v hv ho => ?_,?_⟩
   ·have hv':v∈ai s:=by cases s<;>simp_all [rootsO,ai]
    exact (hm.2.1 v hv ho).frame (fr (out v hv'))
   ·have hk:=I.kind s (List.mem_of_getElem? hu)
    cases s with
    | box b ts =>
     have hb:=box_out u b _ hu
     obtain ⟨k1,k2⟩:=hm.2.2
     exact ⟨lies hb k1,fun c' e' lo hi g1=>by rw [U.same _ k1.lt hb] at g1;exact k2 c' e' lo hi g1⟩
    | im k b ts off =>
     refine lies ?_ hm.2.2
     intro hbt
     cases k with
     | own=>exact hk
     | far=>exact Cx.far_not hk.1 (blk _ hbt)
     | lent h' c' fl =>
      obtain ⟨t1,g1,g2,g3,g4⟩:=hk
      obtain ⟨rfl,rfl⟩:=I.owner hat U.own g1 g2 hbt g3
      exact hsh _ _ hu (.inl ⟨fl,b,ts,off,rfl⟩)
    | fni f caps=>exact fun p hp=>lies (fun hbt=>Cx.far_not (hk p hp).1 (blk _ hbt)) (hm.2.2 p hp)
    | _=>trivial
 ·intro s hs
  obtain ⟨u,hu⟩:=List.getElem?_of_mem hs
  have kt:∀ v:DT,(∀ fl d z r,v ≠ .s (.lent h c fl) d z r)→bg cx D v→bg cx (D.set h (setCells (cs.set c t') s0)) v:=by
   intro v hne hk
   cases v with
   | v x=>trivial
   | any=>trivial
   | s k d z r =>
    cases k with
    | own=>trivial
    | far=>exact hk
    | lent h' c' fl =>
     obtain ⟨t1,g1,g2,g3⟩:=hk
     refine ⟨t1,?_,g2,g3⟩
     rw [cell_other h' c' (by rintro ⟨rfl,rfl⟩;exact hne fl d z r rfl)];exact g1
  by_cases eu:u=h
  ·subst eu
   rw [List.getElem?_set_self hlt] at hu
   cases hu
   have hk:=I.kind s0 hs0m
   have hr:=gP hcs
   have hr':=gP hhome
   have all:∀ v∈cs.set c t',bg cx (D.set u (setCells (cs.set c t') s0)) v:=by
    intro v hv
    obtain ⟨i,hi⟩:=List.getElem?_of_mem hv
    by_cases ei:i=c
    ·subst ei
     rw [List.getElem?_set_self hclt] at hi
     cases hi
     rcases U.kind with g | g
     ·cases t' with
      | v x=>trivial
      | any=>trivial
      | s k d z r=>cases k<;>first | trivial | (simp [T.isOwn] at g)
     ·rw [g];trivial
    ·rw [List.getElem?_set_ne (fun g=>ei g.symm)] at hi
     have hvm:v∈ai s0:=by rw [hr.1];exact List.mem_of_getElem? hi
     refine kt v (fun fl d z r g=>gT (hsh _ _ hs0) fl d z r (by rw [hr.2, ← hr.1];exact g ▸ hvm)) ?_
     cases s0 with
     | one x=>exact hk v hvm
     | agg x=>exact hk v hvm
     | box b x=>exact hk v hvm
     | _=>cases hcs
   cases s0 with
   | one x =>
    intro v hv
    exact all v (by rw [← hr'.1];exact hv)
   | agg x=>exact all
   | box b x=>exact all
   | _=>cases hcs
  ·rw [List.getElem?_set_ne (fun g=>eu g.symm)] at hu
   have hk:=I.kind s (List.mem_of_getElem? hu)
   have hh:=hsh _ _ hu
   cases s with
   | im k b ts off =>
    cases k with
    | own=>exact hk
    | far=>exact hk
    | lent h' c' fl =>
     obtain ⟨t1,g1,g2,g3⟩:=hk
     refine ⟨t1,?_,g2,g3⟩
     rw [cell_other h' c' (by rintro ⟨rfl,rfl⟩;exact hh (.inl ⟨fl,b,ts,off,rfl⟩))];exact g1
   | fni f caps=>exact hk
   | any=>exact fun v hv=>by simp [ai] at hv
   | al=>exact fun v hv=>by simp [ai] at hv
   | pe=>exact fun v hv=>by simp [ai] at hv
   | pb=>exact fun v hv=>by simp [ai] at hv
   | clo=>exact fun v hv=>by simp [ai] at hv
   | one x=>exact fun v hv=>kt v (fun fl d z r g=>gT hh fl d z r (g ▸ hv)) (hk v hv)
   | agg x=>exact fun v hv=>kt v (fun fl d z r g=>gT hh fl d z r (g ▸ hv)) (hk v hv)
   | box b x=>exact fun v hv=>kt v (fun fl d z r g=>gT hh fl d z r (g ▸ hv)) (hk v hv)
   | tup x=>exact fun v hv=>kt v (fun fl d z r g=>gT hh fl d z r (g ▸ hv)) (hk v hv)
 ·intro b
  have h1:=hcnt b
  have h2:=U.cnt b
  have h3:=I.once b
  by_cases hb:b<w.heap.size
  ·rw [if_pos hb] at h2;omega
  ·rw [if_neg hb] at h2
   have:aZ D b+aE P b=0:=by
    rcases Nat.eq_zero_or_pos (aZ D b+aE P b) with g | g
    ·exact g
    ·exact absurd (I.bnd b g).2 hb
   omega
 ·intro b hpos
  have h1:=hcnt b
  have h2:=U.cnt b
  by_cases hb:b<w.heap.size
  ·rw [if_pos hb] at h2
   exact ⟨(I.bnd b (by omega)).1,Nat.lt_of_lt_of_le hb U.size⟩
  ·have:aZ D b+aE P b=0:=by
    rcases Nat.eq_zero_or_pos (aZ D b+aE P b) with g | g
    ·exact g
    ·exact absurd (I.bnd b g).2 hb
   exact ⟨.inl (Nat.le_trans I.frame.size (Nat.le_of_not_lt hb)),U.new b (Nat.le_of_not_lt hb) (by omega)⟩
 ·refine ⟨U.os.trans I.frame.os,U.tape.trans I.frame.tape,U.output.trans I.frame.output,Nat.le_trans I.frame.size U.size,fun b hb => ?_⟩
  rw [U.same b (Nat.lt_of_lt_of_le hb.1 I.frame.size) (fun hbt=>Cx.far_not hb (blk b hbt))]
  exact I.frame.same b hb
end Go.Proofs.YtgaiiephdjllkaaGreatDoor.Am
namespace Go.Proofs.YtgaiiephdjllkaaGreatDoor.Am
set_option linter.unusedVariables false
set_option linter.unusedSimpArgs false
open Go
theorem pf {rows:List (List DT)} {i c:Nat} {row:List DT} {u u':DT} (hi:rows[i]?=some row) (hj:row[c]?=some u) (b:Nat) :
  ((rows.set i (row.set c u')).flatMap fun x=>x.flatMap bl).count b+(bl u).count b=(rows.flatMap fun x=>x.flatMap bl).count b+(bl u').count b:=by
 have h1:=bj (fun x:List DT=>x.flatMap bl) (row.set c u') b rows i row hi
 have h2:=bj bl u' b row c u hj
 omega
theorem yV {k:Kd} {d:Dec} {z:Nat} {rows:List (List DT)} {i c:Nat} {row:List DT} {u:DT} (hi:rows[i]?=some row) (hj:row[c]?=some u) (b:Nat) :
  (bl u).count b+(if d.nil then 0 else [d.b].count b)≤(bl (.s k d z rows)).count b:=by
 have h:=pf (u' := .any) hi hj b
 rw [bW,List.count_append]
 have:(bl (.any:DT)).count b=0:=rfl
 split<;>simp<;>omega
theorem D9 {rows:List (List DT)} {i c i' c':Nat} {row row':List DT} {u v:DT} {b:Nat} (hone:(rows.flatMap fun x=>x.flatMap bl).count b≤1)
  (hi:rows[i]?=some row) (hj:row[c]?=some u) (hi':rows[i']?=some row') (hj':row'[c']?=some v) (hne:¬ (i'=i∧c'=c)) (hu:b∈bl u) (hv:b∈bl v):False:=by
 have h:=pf (u':=(.any:DT)) hi hj b
 have h0:(bl (.any:DT)).count b=0:=rfl
 have h1:0<(bl u).count b:=List.count_pos_iff.2 hu
 have hlt:i<rows.length:=by
  rcases Nat.lt_or_ge i rows.length with g | g
  ·exact g
  ·rw [List.getElem?_eq_none g] at hi;cases hi
 have h2:0<((rows.set i (row.set c .any)).flatMap fun x=>x.flatMap bl).count b:=by
  refine List.count_pos_iff.2 (List.mem_flatMap.2 ?_)
  by_cases e:i'=i
  ·subst e
   rw [hi] at hi';cases hi'
   have hc:c≠c':=fun g=>hne ⟨rfl,g.symm⟩
   refine ⟨row.set c .any,List.mem_of_getElem? (i:=i') (by rw [List.getElem?_set_self hlt]),List.mem_flatMap.2 ⟨v,List.mem_of_getElem? (i:=c') (by rw [List.getElem?_set_ne hc];exact hj'),hv⟩⟩
  ·exact ⟨row',List.mem_of_getElem? (i:=i') (by rw [List.getElem?_set_ne (fun g=>e g.symm)];exact hi'),List.mem_flatMap.2 ⟨v,List.mem_of_getElem? hj',hv⟩⟩
 omega
structure NodeOk (w w':World) (n n':DT):Prop where
 holds:Holds w' n'
 own:OwnT w' n'
 val:∀ y,VT n y→VT n' y
 same:∀ b,b<w.heap.size→b∉bl n→w'.heap[b]?=w.heap[b]?
theorem xr {f:DT→Option DT} {w w':World} {n n':DT} (N:NodeOk w w' n n') (hf:f n=some n'):∀ (st:List (Nat×Nat)) {t t':DT},Holds w t→OwnT w t→(∀ b,(bl t).count b≤1) →
  getN t st=some n→eg f t st=some t' →
  NodeOk w w' t t'∧(∀ b,(bl t').count b+(bl n).count b=(bl t).count b+(bl n').count b)∧(st≠[]→t'.isOwn=true∧∀ d z m,i7 t [] d z m→i7 t' [] d z m)∧getN t' st=some n'
 | [],t,t',hh,ho,h1,hg,hu=>by
  cases hg
  simp only [eg,hf] at hu
  cases hu
  exact ⟨N,fun b=>Nat.add_comm _ _,fun h=>absurd rfl h,rfl⟩
 | (i,c)::st,t,t',hh,ho,h1,hg,hu=>by
  cases t with
  | v x=>simp [getN] at hg
  | any=>simp [getN] at hg
  | s k d z rows =>
   simp only [getN,Option.bind_eq_some_iff] at hg
   obtain ⟨u,⟨row,hi,hj⟩,hg⟩:=hg
   simp only [eg,hi,hj,Option.bind_some,Option.map_eq_some_iff] at hu
   obtain ⟨u',hu,rfl⟩:=hu
   have hilt:i<rows.length:=by
    rcases Nat.lt_or_ge i rows.length with g | g
    ·exact g
    ·rw [List.getElem?_eq_none g] at hi;cases hi
   have hclt:c<row.length:=by
    rcases Nat.lt_or_ge c row.length with g | g
    ·exact g
    ·rw [List.getElem?_eq_none g] at hj;cases hj
   cases hh with
   | e=>simp at hi
   | s _ _ _ _ hnil hsp c0 e0 f0 hb hcap hz hv hh =>
    cases ho with
    | nil=>simp at hi
    | s _ _ _ hnil' hsp c1 e1 lo1 hi1 hb1 hcap1 hroom hfr hho =>
     have hle:∀ b,(bl u).count b+[d.b].count b≤1:=by
      intro b
      have:=yV (k := .own) (d:=d) (z:=z) hi hj b
      rw [hnil] at this
      simp only [Bool.false_eq_true,if_false] at this
      exact Nat.le_trans this (h1 b)
     obtain ⟨N',hc',hr',hg'⟩:=xr N hf st (hh i row c u hi hj) (hho i row c u hi hj) (fun b=>by have:=hle b;omega) hg hu
     have hsub:∀ b,b∈bl n→b∈bl u:=pI st hg
     have hdb:d.b∉bl n:=by
      intro hm
      have h2:=hle d.b
      have h3:0<(bl u).count d.b:=List.count_pos_iff.2 (hsub _ hm)
      simp at h2;omega
     have hb':w'.heap[d.b]?=some (.cells c0 e0 f0):=by rw [N.same _ (cO hb) hdb];exact hb
     have hone:∀ b,(rows.flatMap fun x=>x.flatMap bl).count b≤1:=by
      intro b
      have:=h1 b
      rw [bW,List.count_append] at this
      exact Nat.le_trans (Nat.le_add_left _ _) this
     have hget:∀ (i':Nat) (row':List DT),(rows.set i (row.set c u'))[i']?=some row'→(i'=i∧row'=row.set c u')∨(i'≠i∧rows[i']?=some row'):=by
      intro i' row' hi'
      by_cases e:i'=i
      ·subst e
       rw [List.getElem?_set_self hilt] at hi'
       cases hi';exact .inl ⟨rfl,rfl⟩
      ·rw [List.getElem?_set_ne (fun g=>e g.symm)] at hi'
       exact .inr ⟨e,hi'⟩
     have hcell:∀ (i':Nat) (row':List DT) (j:Nat) (v:DT),(rows.set i (row.set c u'))[i']?=some row'→row'[j]?=some v →
       (i'=i∧j=c∧v=u')∨(¬ (i'=i∧j=c)∧∃ row0,rows[i']?=some row0∧row0[j]?=some v):=by
      intro i' row' j v hi' hj'
      rcases hget i' row' hi' with ⟨rfl,rfl⟩ | ⟨e,hi'⟩
      ·by_cases ej:j=c
       ·subst ej
        rw [List.getElem?_set_self hclt] at hj'
        cases hj';exact .inl ⟨rfl,rfl,rfl⟩
       ·rw [List.getElem?_set_ne (fun g=>ej g.symm)] at hj'
        exact .inr ⟨fun g=>ej g.2,row,hi,hj'⟩
      ·exact .inr ⟨fun g=>e g.1,row',hi',hj'⟩
     have hfr2:∀ (i':Nat) (row0:List DT) (j:Nat) (v:DT),¬ (i'=i∧j=c)→rows[i']?=some row0→row0[j]?=some v→∀ b∈bl v,b<w.heap.size→w'.heap[b]?=w.heap[b]?:=by
      intro i' row0 j v hne hi' hj' b hb hlt
      exact N.same b hlt fun hbn=>D9 (hone b) hi hj hi' hj' hne (hsub b hbn) hb
     refine ⟨⟨?_,?_,?_,?_⟩,?_,?_,?_⟩
     ·refine .s _ _ _ _ hnil hsp c0 e0 f0 hb' (by simpa using hcap) ?_ ?_ ?_
      ·intro i' row' hi'
       rcases hget i' row' hi' with ⟨rfl,rfl⟩ | ⟨e,hi'⟩
       ·simpa using hz i' row hi
       ·exact hz i' row' hi'
      ·intro i' row' j v hi' hj'
       rcases hcell i' row' j v hi' hj' with ⟨rfl,rfl,rfl⟩ | ⟨_,row0,g1,g2⟩
       ·obtain ⟨y,g1,g2⟩:=hv i' row j u hi hj
        exact ⟨y,g1,N'.val y g2⟩
       ·exact hv i' row0 j v g1 g2
      ·intro i' row' j v hi' hj'
       rcases hcell i' row' j v hi' hj' with ⟨rfl,rfl,rfl⟩ | ⟨hne,row0,g1,g2⟩
       ·exact N'.holds
       ·exact (hh i' row0 j v g1 g2).frame (hfr2 i' row0 j v hne g1 g2)
     ·refine .s _ _ _ hnil hsp c1 e1 lo1 hi1 (by rw [N.same _ (cO hb1) hdb];exact hb1) (by simpa using hcap1) hroom hfr ?_
      intro i' row' j v hi' hj'
      rcases hcell i' row' j v hi' hj' with ⟨rfl,rfl,rfl⟩ | ⟨hne,row0,g1,g2⟩
      ·exact N'.own
      ·exact (hho i' row0 j v g1 g2).frame (hfr2 i' row0 j v hne g1 g2)
     ·intro y hy
      simpa [VT] using hy
     ·intro b hlt hb
      exact N.same b hlt fun hbn=>hb (iq hi hj (hsub b hbn))
     ·intro b
      have g1:=pf (u':=u') hi hj b
      have g2:=hc' b
      rw [bW,bW,List.count_append,List.count_append]
      omega
     ·intro _
      refine ⟨rfl,?_⟩
      rintro d1 z1 m ⟨k1,rows1,g1,g2⟩
      cases g1
      exact ⟨_,_,rfl,by simpa using g2⟩
     ·simp only [getN]
      rw [List.getElem?_set_self hilt]
      simp only [Option.bind_some]
      rw [List.getElem?_set_self hclt]
      exact hg'
end Go.Proofs.YtgaiiephdjllkaaGreatDoor.Am
namespace Go.Proofs.YtgaiiephdjllkaaGreatDoor.Am
set_option linter.unusedVariables false
set_option linter.unusedSimpArgs false
open Go
structure HU (cx:Cx) (D:DSt) (P P':List (DT×Value)) (w w':World) (h:Nat) (b:Nat×Nat) (ts ts':List DT):Prop where
 at_:D[h]?=some (.box b ts)
 len:ts'.length=ts.length
 lies:Lies w' b ts'
 free:Free w' b ts.length
 holds:∀ t∈ts',Holds w' t
 ownT:∀ t∈ts',t.isOwn=true→OwnT w' t
 kind:∀ t∈ts',bg cx (D.set h (.box b ts')) t
 cnt:∀ x,(ts'.flatMap ownR).count x+aE P' x≤(ts.flatMap ownR).count x+aE P x
 keep:∀ (c:Nat) (t:DT),ts[c]?=some t→t.isOwn=true→ts'[c]?=some t∨((∀ s∈D,¬ mH h c s)∧∀ s∈D,∀ st,¬ l3 h c st s)
 size:w.heap.size≤w'.heap.size
 same:∀ x,x<w.heap.size→x≠b.1→w'.heap[x]?=w.heap[x]?
 os:w'.os=w.os
 tape:w'.tape=w.tape
 output:w'.output=w.output
 pend:∀ p∈P',VT p.1 p.2∧Holds w' p.1∧(p.1.isOwn=true→OwnT w' p.1)∧(p.1.isOwn=false→∀ x∈bl p.1,cx.far x)
theorem Inv.box_tree {cx:Cx} {D:DSt} {P:List (DT×Value)} {tm:Array Value} {w:World} (I:Inv cx D P tm w) {h:Nat} {b:Nat×Nat} {ts:List DT} (hb:D[h]?=some (.box b ts))
  {h' c:Nat} {t:DT} (hc:am D h' c=some t) (ho:t.isOwn=true):b.1∉bl t:=by
 intro hm
 obtain ⟨s,g1,g2,g3,g3',g4⟩:=bD hc
 by_cases e:h'=h
 ·subst e
  rw [hb] at g1;cases g1
  simp only [am,hb,Option.bind_some,aI] at hc
  have h1:=I.once b.1
  have h2:(ownBl (.box b ts:DSl)).count b.1=1+(ts.flatMap ownR).count b.1:=by simp [ownBl,Nat.add_comm]
  have h3:=bj ownBl (Sl.any:DSl) b.1 D h' _ hb
  have h0:(ownBl (Sl.any:DSl)).count b.1=0:=rfl
  have h4:0<(ts.flatMap ownR).count b.1:=List.count_pos_iff.2 (List.mem_flatMap.2 ⟨t,List.mem_of_getElem? hc,by simp [ownR,ho,hm]⟩)
  unfold aZ at h1
  omega
 ·exact I.apart e g1 hb (g4 ho _ hm) (by simp [ownBl])
theorem Inv.box_may {cx:Cx} {D:DSt} {P:List (DT×Value)} {tm:Array Value} {w:World} (I:Inv cx D P tm w) {h:Nat} {b:Nat×Nat} {ts:List DT} (hb:D[h]?=some (.box b ts)):cx.may b.1∧b.1<w.heap.size :=
 I.bnd b.1 (by have:=bU (b:=b.1) (List.mem_of_getElem? hb) (by simp [ownBl]);omega)
theorem Inv.box_root {cx:Cx} {D:DSt} {P:List (DT×Value)} {tm:Array Value} {w:World} (I:Inv cx D P tm w) {h:Nat} {b:Nat×Nat} {ts:List DT} (hb:D[h]?=some (.box b ts))
  {u:Nat} {s:DSl} (hs:D[u]?=some s) {v:DT} (hv:v∈ai s):b.1∉bl v:=by
 intro hm
 have hmay:=(I.box_may hb).1
 have hk:=I.kind s (List.mem_of_getElem? hs)
 have lent:∀ h' c',(∃ t',am D h' c'=some t'∧t'.isOwn=true∧b.1∈bl t')→False:=fun h' c' ⟨t',g1,g2,g3⟩=>I.box_tree hb g1 g2 g3
 have notim:bg cx D v→(v.isOwn=true→False)→False:=by
  intro hkv hov
  cases v with
  | v x=>simp [bl] at hm
  | any=>simp [bl] at hm
  | s k d z r =>
   cases k with
   | far=>exact Cx.far_not (hkv _ hm) hmay
   | lent h' c' fl =>
    obtain ⟨t',g1,g2,g3,g3r⟩:=hkv
    exact lent h' c' ⟨t',g1,g2,g3 _ hm⟩
   | own=>exact hov rfl
 have home:∀ cs,aI s=some cs→v.isOwn=true→False:=by
  intro cs hcs hov
  rw [(gP hcs).1] at hv
  obtain ⟨i,hi⟩:=List.getElem?_of_mem hv
  exact lent u i ⟨v,by simp [am,hs,hcs,hi],hov,hm⟩
 cases s with
 | one x=>exact notim (hk v hv) (home _ rfl)
 | agg x=>exact notim (hk v hv) (home _ rfl)
 | box b' x=>exact notim (hk v hv) (home _ rfl)
 | tup rs =>
  refine notim (hk v hv) fun hov => ?_
  have hbu:b.1∈ownBl (.tup rs:DSl):=by
   simp only [ai,List.mem_flatMap] at hv
   obtain ⟨p,hp,hv⟩:=hv
   simp only [ownBl,List.mem_flatMap]
   exact ⟨p,hp,v,hv,by simp [ownR,hov,hm]⟩
  by_cases e:u=h
  ·subst e;rw [hs] at hb;cases hb
  ·exact I.apart e hs hb hbu (by simp [ownBl])
 | im k b' ts off =>
  have hk':lj cx D k b'.1 ts:=hk
  cases k with
  | own=>exact hk'
  | far=>exact Cx.far_not (hk'.2 v hv _ hm) hmay
  | lent h' c' fl =>
   obtain ⟨t',g1,g2,g3,g4⟩:=hk'
   exact lent h' c' ⟨t',g1,g2,g4 v hv _ hm⟩
 | fni f caps =>
  simp only [ai,List.mem_flatMap] at hv
  obtain ⟨p,hp,hv⟩:=hv
  exact Cx.far_not ((hk p hp).2 v hv _ hm) hmay
 | any=>simp [ai] at hv
 | al=>simp [ai] at hv
 | pe=>simp [ai] at hv
 | pb=>simp [ai] at hv
 | clo=>simp [ai] at hv
theorem Inv.boxSet {cx:Cx} {D:DSt} {P P':List (DT×Value)} {tm:Array Value} {w w':World} (I:Inv cx D P tm w) {h:Nat} {b:Nat×Nat} {ts ts':List DT} (B:HU cx D P P' w w' h b ts ts') :
  Inv cx (D.set h (.box b ts')) P' tm w':=by
 have hb:=B.at_
 have hlt:h<D.length:=by
  rcases Nat.lt_or_ge h D.length with g | g
  ·exact g
  ·rw [List.getElem?_eq_none g] at hb;cases hb
 have cell_other:∀ h' c',h'≠h→am (D.set h (.box b ts')) h' c'=am D h' c':=fun h' c' e=>jz e
 have cell_here:∀ c,am (D.set h (.box b ts')) h c=ts'[c]?:=by
  intro c;unfold am;rw [List.getElem?_set_self hlt];rfl
 have cell_old:∀ c,am D h c=ts[c]?:=by
  intro c;unfold am;rw [hb];rfl
 have hcnt:∀ x,aZ (D.set h (.box b ts')) x+(ts.flatMap ownR).count x=aZ D x+(ts'.flatMap ownR).count x:=by
  intro x
  have h1:=bj ownBl (.box b ts') x D h _ hb
  simp only [ownBl,List.count_cons] at h1
  unfold aZ
  omega
 have le:∀ x,aZ (D.set h (.box b ts')) x+aE P' x≤aZ D x+aE P x:=by
  intro x;have h1:=hcnt x;have h2:=B.cnt x;omega
 have fr:∀ {u:Nat} {s:DSl} {v:DT},D[u]?=some s→v∈ai s→∀ x∈bl v,x<w.heap.size→w'.heap[x]?=w.heap[x]?:=by
  intro u s v hs hv x hx hlt
  refine B.same x hlt ?_
  rintro rfl
  exact I.box_root hb hs hv hx
 have lies:∀ {b':Nat×Nat} {l:List DT},b'.1≠b.1→Lies w b' l→Lies w' b' l:=by
  rintro b' l hne ⟨c',e',f,h1,h2⟩
  exact ⟨c',e',f,by rw [B.same _ (cO h1) hne];exact h1,h2⟩
 refine ⟨by have:=I.size;simpa using this,?_,?_,?_,B.pend,fun x=>Nat.le_trans (le x) (I.once x),?_,?_⟩
 ·intro u s hs
  by_cases eu:u=h
  ·subst eu
   rw [List.getElem?_set_self hlt] at hs
   cases hs
   exact I.val u _ hb
  ·rw [List.getElem?_set_ne (fun g=>eu g.symm)] at hs
   have hsm:=List.mem_of_getElem? hs
   have hv:=I.val u s hs
   have nd:∀ h' c' st d z n,l3 h' c' st s→dt D h' c' st d z n→dt (D.set h (.box b ts')) h' c' st d z n:=by
    rintro h' c' st d z n hsp ⟨t,k1,k2,k3⟩
    by_cases e:h'=h
    ·subst e
     rw [cell_old] at k1
     rcases B.keep c' t k1 k2 with g | ⟨_,g⟩
     ·exact ⟨t,by rw [cell_here];exact g,k2,k3⟩
     ·exact absurd hsp (g s hsm st)
    ·exact ⟨t,by rw [cell_other h' c' e];exact k1,k2,k3⟩
   have bx:∀ (h':Nat) (b1:Nat×Nat) (l:List DT),D[h']?=some (.box b1 l)→∃ l',(D.set h (.box b ts'))[h']?=some (.box b1 l'):=by
    intro h' b1 l hb1
    by_cases e:h'=h
    ·subst e
     rw [hb] at hb1;cases hb1
     exact ⟨ts',List.getElem?_set_self hlt⟩
    ·exact ⟨l,by rw [List.getElem?_set_ne (fun g=>e g.symm)];exact hb1⟩
   cases s with
   | al h' c st lo len =>
    obtain ⟨d,z,n,a,k1,k2⟩:=hv
    exact ⟨d,z,n,a,nd h' c st d z n ⟨rfl,rfl,rfl⟩ k1,k2⟩
   | pe h' c st i off =>
    obtain ⟨d,z,n,k1,k2⟩:=hv
    exact ⟨d,z,n,nd h' c st d z n ⟨rfl,rfl,rfl⟩ k1,k2⟩
   | pb h' off =>
    obtain ⟨b1,l,k1,k2⟩:=hv
    obtain ⟨l',k3⟩:=bx _ _ _ k1
    exact ⟨b1,l',k3,k2⟩
   | clo f hs =>
    obtain ⟨bs,k1,k2,k3⟩:=hv
    exact ⟨bs,k1,fun i h b hi hb=>by obtain ⟨l,k4⟩:=k2 i h b hi hb;exact bx _ _ _ k4,k3⟩
   | _=>exact hv
 ·intro s hs
  obtain ⟨u,hu⟩:=List.getElem?_of_mem hs
  by_cases eu:u=h
  ·subst eu
   rw [List.getElem?_set_self hlt] at hu
   cases hu
   exact ⟨B.holds,B.ownT,B.lies,by rw [B.len];exact B.free⟩
  ·rw [List.getElem?_set_ne (fun g=>eu g.symm)] at hu
   have hm:=I.mem s (List.mem_of_getElem? hu)
   have hk:=I.kind s (List.mem_of_getElem? hu)
   refine ⟨fun v hv=>(hm.1 v hv).frame (fr hu hv),fun v hv ho => ?_,?_⟩
   ·have hv':v∈ai s:=by cases s<;>simp_all [rootsO,ai]
    exact (hm.2.1 v hv ho).frame (fr hu hv')
   ·cases s with
    | box b1 l =>
     have hne:b1.1≠b.1:=fun g=>I.apart eu hu hb (b:=b.1) (by simp [ownBl,g]) (by simp [ownBl])
     obtain ⟨k1,k2⟩:=hm.2.2
     exact ⟨lies hne k1,fun c' e' lo hi g1=>by rw [B.same _ k1.lt hne] at g1;exact k2 c' e' lo hi g1⟩
    | im k b1 l off =>
     refine lies ?_ hm.2.2
     intro hbt
     cases k with
     | own=>exact hk
     | far=>exact Cx.far_not hk.1 (by rw [hbt];exact (I.box_may hb).1)
     | lent h' c' fl =>
      obtain ⟨t1,g1,g2,g3,g4⟩:=hk
      rw [hbt] at g3
      exact I.box_tree hb g1 g2 g3
    | fni f caps=>exact fun p hp=>lies (fun hbt=>Cx.far_not (hk p hp).1 (by rw [hbt];exact (I.box_may hb).1)) (hm.2.2 p hp)
    | _=>trivial
 ·intro s hs
  obtain ⟨u,hu⟩:=List.getElem?_of_mem hs
  by_cases eu:u=h
  ·subst eu
   rw [List.getElem?_set_self hlt] at hu
   cases hu
   exact B.kind
  ·rw [List.getElem?_set_ne (fun g=>eu g.symm)] at hu
   have hsm:=List.mem_of_getElem? hu
   have hk:=I.kind s hsm
   have cc:∀ h' c' t,mH h' c' s→am D h' c'=some t→t.isOwn=true→am (D.set h (.box b ts')) h' c'=some t:=by
    intro h' c' t hn g1 g2
    by_cases e:h'=h
    ·subst e
     rw [cell_old] at g1
     rcases B.keep c' t g1 g2 with g | ⟨g,_⟩
     ·rw [cell_here];exact g
     ·exact absurd hn (g s hsm)
    ·rw [cell_other h' c' e];exact g1
   have kt:∀ v∈rootsO s,bg cx D v→bg cx (D.set h (.box b ts')) v:=by
    intro v hv hkv
    cases v with
    | v x=>trivial
    | any=>trivial
    | s k d z r =>
     cases k with
     | own=>trivial
     | far=>exact hkv
     | lent h' c' fl =>
      obtain ⟨t1,g1,g2,g3⟩:=hkv
      exact ⟨t1,cc h' c' t1 (.inr ⟨fl,d,z,r,hv⟩) g1 g2,g2,g3⟩
   cases s with
   | im k b1 l off =>
    cases k with
    | own=>exact hk
    | far=>exact hk
    | lent h' c' fl =>
     obtain ⟨t1,g1,g2,g3⟩:=hk
     exact ⟨t1,cc h' c' t1 (.inl ⟨fl,b1,l,off,rfl⟩) g1 g2,g2,g3⟩
   | fni f caps=>exact hk
   | any=>exact fun v hv=>by simp [ai] at hv
   | al=>exact fun v hv=>by simp [ai] at hv
   | pe=>exact fun v hv=>by simp [ai] at hv
   | pb=>exact fun v hv=>by simp [ai] at hv
   | clo=>exact fun v hv=>by simp [ai] at hv
   | one x=>exact fun v hv=>kt v hv (hk v hv)
   | agg x=>exact fun v hv=>kt v hv (hk v hv)
   | box b x=>exact fun v hv=>kt v hv (hk v hv)
   | tup x=>exact fun v hv=>kt v hv (hk v hv)
 ·intro x hx
  have:=I.bnd x (Nat.lt_of_lt_of_le hx (le x))
  exact ⟨this.1,Nat.lt_of_lt_of_le this.2 B.size⟩
 ·refine ⟨B.os.trans I.frame.os,B.tape.trans I.frame.tape,B.output.trans I.frame.output,Nat.le_trans I.frame.size B.size,fun x hx => ?_⟩
  rw [B.same x (Nat.lt_of_lt_of_le hx.1 I.frame.size) (fun g=>Cx.far_not hx (by rw [g];exact (I.box_may hb).1))]
  exact I.frame.same x hx
end Go.Proofs.YtgaiiephdjllkaaGreatDoor.Am
namespace Go.Proofs.YtgaiiephdjllkaaGreatDoor.Am
set_option linter.unusedVariables false
set_option linter.unusedSimpArgs false
open Go
structure Got (cx:Cx) (D:DSt) (w:World) (P:List (DT×Value)) (ts:List DT) (ys:List Value):Prop where
 v:VCells ts ys
 holds:∀ t∈ts,Holds w t
 own:∀ t∈ts,t.isOwn=true→OwnT w t
 kind:∀ t∈ts,bg cx D t
 cnt:∀ b,(ts.flatMap ownR).count b≤aE P b
section
variable {δ β : Type}
def T.noLent:T δ→Bool
 | .s (.lent _ _ _) _ _ _=>false
 | _=>true
def cellsCopy (M:Mk δ β) (D:St δ β) (x:Operand):Option (Bool×List (T δ)) :=
 match opd M.nil D x with
 | some (.one t)=>some (false,[t])
 | some (.agg ts)=>some (true,ts)
 | some (.al h c st lo len) =>
  if lo=0∨0<len then
   match cf D h c st with
   | some (.s _ d z rows)=>some (false,[.s (.lent h c false) (M.win d lo z) z ((rows.drop lo).take len)])
   | _=>none
  else none
 | _=>none
def cellsTake (M:Mk δ β) (D:St δ β) (x:Operand):Option (Bool×List (T δ)×St δ β) :=
 match x with
 | .tmp t =>
  match D[t]? with
  | some (.one u)=>if u.isOwn then some (false,[u],aM t D) else none
  | some (.agg ts)=>if ts.all T.noLent then some (true,ts,aM t D) else none
  | some (.al h c st lo len) =>
   if lo=0∨0<len then
    match cf D h c st with
    | some (.s .own d z rows) =>
     (cE (fun _=>some .any) (St.dead (co h c) (qHC h c) D) h c st).map fun D'=>(false,[.s .own (M.win d lo z) z ((rows.drop lo).take len)],D')
    | _=>none
   else none
  | _=>none
 | _=>none
def cellsOf (M:Mk δ β) (D:St δ β) (x:Operand) (tk:Bool):Option (Bool×List (T δ)×St δ β) :=
 if tk then cellsTake M D x else (cellsCopy M D x).map fun p=>(p.1,p.2,D)
end
def bI (g:Bool) (y:Value) (ys:List Value):Prop:=if g then y = .agg ys.toArray else ys=[y]
theorem VCells.one {t:DT} {y:Value} (h:VT t y):VCells [t] [y]:=by
 refine ⟨rfl,fun i u v hi hv => ?_⟩
 cases i with
 | zero=>simp at hi hv;subst hi;subst hv;exact h
 | succ i=>simp at hi
theorem vg {k:Kd} {d:Dec} {z lo len cap:Nat} {a:Option Addr} {rows:List (List DT)} (hlen:lo+len≤rows.length) (hcap:rows.length≤d.cap) (hs:d.sp=none) (hc:cap=d.cap-lo)
  (ha:lo<d.cap→a=some ⟨d.b,d.o+lo*z,none⟩) (ha0:lo=0→a=if d.nil then none else some ⟨d.b,d.o,none⟩) (hn:d.nil=true→rows=[]) (h:lo=0∨0<len) :
  VT (.s k (mkD.win d lo z) z ((rows.drop lo).take len)) (.slice a len cap):=by
 have hl:((rows.drop lo).take len).length=len:=by simp;omega
 show Value.slice a len cap = .slice (mkD.win d lo z).addr _ _
 rw [Dec.addr_none (d:=mkD.win d lo z) (by simpa [mkD] using hs),hl,hc]
 simp only [mkD]
 congr 1
 by_cases h0:lo=0
 ·rw [ha0 h0,h0]
  simp
 ·have hlt:lo<d.cap:=by omega
  rw [ha hlt]
  have:d.nil=false:=by
   cases hd:d.nil with
   | false=>rfl
   | true=>have:=hn hd;rw [this] at hlen;simp at hlen;omega
  simp only [this,Bool.false_eq_true,if_false]
  rw [if_neg (by omega)]
theorem Holds.nilrows {w:World} {k:Kd} {d:Dec} {z:Nat} {rows:List (List DT)} (h:Holds w (.s k d z rows)) (hn:d.nil=true):rows=[]:=by
 cases h with
 | e=>rfl
 | s _ _ _ _ h _=>rw [hn] at h;cases h
theorem Inv.cellsCopy {cx:Cx} {D:DSt} {Pd:List (DT×Value)} {a:Act} {w:World} (I:Inv cx D Pd a.tmps w) {x:Operand} {g:Bool} {ts:List DT} (e:cellsCopy mkD D x=some (g,ts)) :
  ∃ ys,Got cx D w [] ts ys∧bI g (a.eval x) ys:=by
 unfold Am.cellsCopy at e
 split at e
 ·rename_i t h
  cases e
  have hT:=I.opd h
  refine ⟨[a.eval x],⟨.one hT.val,fun u hu=>hT.mem.1 u (by simpa [ai] using hu),fun u hu ho=>hT.mem.2.1 u (by simpa [rootsO] using hu) ho,fun u hu=>hT.kind u (by simpa [ai] using hu),fun b => ?_⟩,rfl⟩
  have:=hT.noown
  simp only [ownBl] at this
  simp [this]
 ·rename_i us h
  cases e
  have hT:=I.opd h
  obtain ⟨cs,h1,h2⟩:=hT.val
  refine ⟨cs.toList,⟨h2,hT.mem.1,hT.mem.2.1,hT.kind,fun b => ?_⟩,by simp [bI,h1]⟩
  have:=hT.noown
  simp only [ownBl] at this
  simp [this]
 ·rename_i h c st lo len hs
  split at e
  ·rename_i hcond
   split at e
   ·rename_i k d z rows hn
    cases e
    have hT:=I.opd hs
    obtain ⟨d',z',n,ad,hnode,hle,hy,ha,ha0⟩:=hT.val
    obtain ⟨t,k1,rows1,g1,g2,g3,g4,g5,g6⟩:=I.node hnode
    simp only [cf,g1,Option.bind_some] at hn
    rw [g3] at hn;cases hn
    refine ⟨[a.eval x],⟨.one ?_,fun u hu => ?_,fun u hu ho => ?_,fun u hu => ?_,fun b => ?_⟩,rfl⟩
    ·rw [hy]
     exact vg (by omega) g5.cap g6.sp rfl ha ha0 g5.nilrows hcond
    ·simp at hu;subst hu
     exact oB (g5.win lo len (by omega))
    ·simp at hu;subst hu;cases ho
    ·simp at hu;subst hu
     exact ⟨t,g1,g2,fun x hx=>pI st g3 x (by have:=zk hx;simp only [bW] at this ⊢;exact this),fun h=>by cases h⟩
    ·simp [ownR,T.isOwn]
   ·cases e
  ·cases e
 ·cases e
theorem ki {p:Nat→Nat→Bool} {q:Nat→Nat→Bool→Bool} {h c:Nat} (hp:p h c=true) {D:DSt}:∀ s∈St.dead p q D,¬ mH h c s∧((∀ b,q h c b=true)→∀ st,¬ l3 h c st s)∧((q h c true=true)→∀ st,l3 h c st s→st=[]):=by
 intro s hs
 obtain ⟨u,hu,rfl⟩:=List.mem_map.1 hs
 have td:∀ (v:DT) fl d z r,v.dead p ≠ .s (.lent h c fl) d z r:=by
  intro v fl d z r
  cases v with
  | v x=>simp [T.dead]
  | any=>simp [T.dead]
  | s k d' z' r' =>
   cases k with
   | own=>simp [T.dead]
   | far=>simp [T.dead]
   | lent h' c' fl' =>
    simp only [T.dead]
    by_cases e:p h' c'=true
    ·rw [if_pos e];simp
    ·rw [if_neg e];intro g;cases g;exact e hp
 have ts:∀ (l:List DT) fl d z r,(.s (.lent h c fl) d z r:DT)∉l.map (T.dead p):=by
  intro l fl d z r hm
  obtain ⟨v,_,hv⟩:=List.mem_map.1 hm
  exact td v fl d z r hv
 have none:∀ (s:DSl),(∀ k b l off,s ≠ .im k b l off)→rootsO s=[]→¬ mH h c s:=by
  rintro s h1 h2 (⟨fl,b,t,o,g⟩ | ⟨fl,d,z,r,g⟩)
  ·exact h1 _ _ _ _ g
  ·rw [h2] at g;cases g
 cases u with
 | any=>exact ⟨none _ (by simp [Sl.dead]) rfl,fun _ st g=>g.elim,fun _ st g=>g.elim⟩
 | one v=>exact ⟨by rintro (⟨fl,b,t,o,g⟩ | ⟨fl,d,z,r,g⟩);(· simp [Sl.dead] at g);(· exact ts [v] fl d z r g),fun _ st g=>g.elim,fun _ st g=>g.elim⟩
 | agg l=>exact ⟨by rintro (⟨fl,b,t,o,g⟩ | ⟨fl,d,z,r,g⟩);(· simp [Sl.dead] at g);(· exact ts l fl d z r g),fun _ st g=>g.elim,fun _ st g=>g.elim⟩
 | box b l=>exact ⟨by rintro (⟨fl,b,t,o,g⟩ | ⟨fl,d,z,r,g⟩);(· simp [Sl.dead] at g);(· exact ts l fl d z r g),fun _ st g=>g.elim,fun _ st g=>g.elim⟩
 | tup rs =>
  refine ⟨?_,fun _ st g=>g.elim,fun _ st g=>g.elim⟩
  rintro (⟨fl,b,t,o,g⟩ | ⟨fl,d,z,r,g⟩)
  ·simp [Sl.dead] at g
  ·simp only [Sl.dead,rootsO,List.mem_flatMap,List.mem_map] at g
   obtain ⟨p,⟨p',hp,rfl⟩,g⟩:=g
   exact ts p'.2 fl d z r (by simpa using g)
 | al h' c' st' lo len =>
  simp only [Sl.dead]
  by_cases e:q h' c' (!st'.isEmpty)=true
  ·rw [if_pos e];exact ⟨none _ (by simp) rfl,fun _ st g=>g.elim,fun _ st g=>g.elim⟩
  ·rw [if_neg e]
   refine ⟨none _ (by simp) rfl,fun hq st g=>e (by rw [g.1,g.2.1];exact hq _),fun hq st g => ?_⟩
   rw [g.1,g.2.1] at e
   rw [← g.2.2]
   cases st' with
   | nil=>rfl
   | cons x l=>exact absurd hq e
 | pe h' c' st' i off =>
  simp only [Sl.dead]
  by_cases e:q h' c' (!st'.isEmpty)=true
  ·rw [if_pos e];exact ⟨none _ (by simp) rfl,fun _ st g=>g.elim,fun _ st g=>g.elim⟩
  ·rw [if_neg e]
   refine ⟨none _ (by simp) rfl,fun hq st g=>e (by rw [g.1,g.2.1];exact hq _),fun hq st g => ?_⟩
   rw [g.1,g.2.1] at e
   rw [← g.2.2]
   cases st' with
   | nil=>rfl
   | cons x l=>exact absurd hq e
 | pb h' off=>exact ⟨none _ (by simp [Sl.dead]) rfl,fun _ st g=>g.elim,fun _ st g=>g.elim⟩
 | clo f hs'=>exact ⟨none _ (by simp [Sl.dead]) rfl,fun _ st g=>g.elim,fun _ st g=>g.elim⟩
 | fni f caps=>exact ⟨none _ (by simp [Sl.dead]) rfl,fun _ st g=>g.elim,fun _ st g=>g.elim⟩
 | im k b l off =>
  simp only [Sl.dead]
  split
  ·rename_i h' c' fl0
   by_cases e:p h' c'=true
   ·rw [if_pos e];exact ⟨none _ (by simp) rfl,fun _ st g=>g.elim,fun _ st g=>g.elim⟩
   ·rw [if_neg e]
    refine ⟨?_,fun _ st g=>g.elim,fun _ st g=>g.elim⟩
    rintro (⟨fl,b,t,o,g⟩ | ⟨fl,d,z,r,g⟩)
    ·cases g;exact e hp
    ·cases g
  ·rename_i hk
   refine ⟨?_,fun _ st g=>g.elim,fun _ st g=>g.elim⟩
   rintro (⟨fl,b,t,o,g⟩ | ⟨fl,d,z,r,g⟩)
   ·cases g;exact hk _ _ _ rfl
   ·cases g
theorem np {h c:Nat} {D:DSt}:∀ s∈St.dead (co h c) (qHC h c) D,¬ mH h c s∧∀ st,¬ l3 h c st s:=fun s hs =>
 ⟨(ki (p:=co h c) (q:=qHC h c) (by simp [co]) s hs).1,(ki (p:=co h c) (q:=qHC h c) (by simp [co]) s hs).2.1 (fun b=>by simp [qHC])⟩
end Go.Proofs.YtgaiiephdjllkaaGreatDoor.Am
namespace Go.Proofs.YtgaiiephdjllkaaGreatDoor.Am
set_option linter.unusedVariables false
set_option linter.unusedSimpArgs false
open Go
theorem kP:∀ (ts:List DT) (ys:List Value),ts.length=ys.length→∀ b,aE (ts.zip ys) b=(ts.flatMap ownR).count b
 | [],_,_,b=>rfl
 | t::ts,[],h,b=>by simp at h
 | t::ts,y::ys,h,b=>by
  simp only [List.zip_cons_cons,hJ,List.flatMap_cons,List.count_append]
  rw [kP ts ys (by simpa using h) b]
theorem xA {α:Type} (f:α→List Nat) (b:Nat) {l l':List α} (h:l.Sublist l'):(l.flatMap f).count b≤(l'.flatMap f).count b:=by
 induction h with
 | slnil=>exact Nat.le_refl _
 | cons a h ih=>simp only [List.flatMap_cons,List.count_append];omega
 | cons_cons a h ih=>simp only [List.flatMap_cons,List.count_append];omega
theorem nN {k k':Kd} {d:Dec} {z:Nat} (rows:List (List DT)) (l n b:Nat):(bl (.s k (mkD.win d l z) z ((rows.drop l).take n))).count b≤(bl (.s k' d z rows)).count b:=by
 rw [bW,bW,List.count_append,List.count_append]
 have h1:(((rows.drop l).take n).flatMap fun x=>x.flatMap bl).count b≤(rows.flatMap fun x=>x.flatMap bl).count b:=by
  exact xA _ b ((List.take_sublist _ _).trans (List.drop_sublist _ _))
 have h2:(if (mkD.win d l z).nil=true then [] else [(mkD.win d l z).b])=(if d.nil=true then [] else [d.b]):=rfl
 rw [h2];omega
theorem OwnT.win {w:World} {d:Dec} {z:Nat} {rows:List (List DT)} (h:OwnT w (.s .own d z rows)) (l n:Nat) (hl:l+n≤rows.length) :
  OwnT w (.s .own (mkD.win d l z) z ((rows.drop l).take n)):=by
 cases h with
 | nil _ _ hn hs hc =>
  simp
  exact .nil _ _ (by simpa [mkD] using hn) (by simpa [mkD] using hs) (by simp [mkD,hc])
 | s _ _ _ h hsp c e lo hi hb hcap hroom hf hh =>
  have hget:∀ (i:Nat) (row:List DT),((rows.drop l).take n)[i]?=some row→rows[l+i]?=some row:=by
   intro i row hi
   rw [List.getElem?_take] at hi
   split at hi
   ·rw [List.getElem?_drop] at hi;exact hi
   ·cases hi
  have key:(mkD.win d l z).o+(mkD.win d l z).cap*z≤d.o+d.cap*z∧d.o≤(mkD.win d l z).o:=by
   simp only [mkD]
   split
   ·rename_i hc;rw [hc];simp
   ·rw [Nat.sub_mul]
    have:l*z≤d.cap*z:=Nat.mul_le_mul_right _ (by omega)
    omega
  refine .s _ _ _ (by simpa [mkD] using h) (by simpa [mkD] using hsp) c e lo hi (by simpa [mkD] using hb) (by simp [mkD];omega) (by omega) ?_ ?_
  ·intro x h1 h2
   exact hf x (by omega) (by omega)
  ·intro i row j t hi' hj
   exact hh _ row j t (hget i row hi') hj
theorem uY {D:DSt} {h c:Nat} {t t':DT} (hc:am D h c=some t):∃ D',et D h c t'=some D':=by
 unfold am at hc
 simp only [Option.bind_eq_some_iff] at hc
 obtain ⟨cs,⟨s,hs,hcs⟩,_⟩:=hc
 exact ⟨D.set h (setCells (cs.set c t') s),by unfold et;rw [hs];simp only [hcs,Option.map_some]⟩
theorem Inv.bl_once {cx:Cx} {D:DSt} {P:List (DT×Value)} {tm:Array Value} {w:World} (I:Inv cx D P tm w) {h c:Nat} {t:DT} (hc:am D h c=some t) (ho:t.isOwn=true) (b:Nat):(bl t).count b≤1:=by
 unfold am at hc
 simp only [Option.bind_eq_some_iff] at hc
 obtain ⟨cs,⟨s,hs,hcs⟩,ht⟩:=hc
 have h1:=I.cells_once hs hcs b
 have h2:=bj ownR (T.any:DT) b cs c t ht
 have h0:(ownR (T.any:DT)).count b=0:=rfl
 have h3:ownR t=bl t:=by simp [ownR,ho]
 rw [h3] at h2
 omega
theorem Inv.cellsTakeP {cx:Cx} {D:DSt} {P0:List (DT×Value)} {a:Act} {w:World} (I:Inv cx D P0 a.tmps w) {x:Operand} {g:Bool} {ts:List DT} {D':DSt} (e:cellsTake mkD D x=some (g,ts,D')) :
  ∃ ys P,Inv cx D' (P++P0) a.tmps w∧Got cx D' w P ts ys∧bI g (a.eval x) ys:=by
 unfold Am.cellsTake at e
 split at e
 ·rename_i t
  split at e
  ·rename_i u hu
   split at e
   ·rename_i ho
    cases e
    have hv:=I.val t _ hu
    have hm:=I.mem _ (List.mem_of_getElem? hu)
    have hT:=Inv.take I (P:=P0) (cs:=[(u,a.tmps.getD t undef)]) hu (fun p hp=>by rw [List.mem_singleton] at hp;subst hp;exact ⟨by simp [rootsO],by simp [ai],hv⟩)
     (fun p hp h c fl d z r g=>by simp at hp;subst hp;simp only at g;rw [g] at ho;cases ho) (fun b=>by rw [hJ,bZ];exact Nat.le_refl _) (by simp) (by simp)
    refine ⟨[a.tmps.getD t undef],_,hT,⟨.one hv,fun v hv'=>by simp at hv';subst hv';exact hm.1 _ (by simp [ai]),fun v hv' _=>by simp at hv';subst hv';exact hm.2.1 _ (by simp [rootsO]) ho,fun v hv' => ?_,fun b => ?_⟩,rfl⟩
    ·simp at hv';subst hv'
     cases v with
     | v x=>trivial
     | any=>trivial
     | s k d z r=>cases k<;>first | trivial | (simp [T.isOwn] at ho)
    ·simp [aE]
   ·cases e
  ·rename_i us hu
   split at e
   ·rename_i hall
    cases e
    have hv:=I.val t _ hu
    obtain ⟨cs,hy,hvc⟩:=hv
    have hm:=I.mem _ (List.mem_of_getElem? hu)
    have hk:=I.kind _ (List.mem_of_getElem? hu)
    have hnl:∀ v∈ts,∀ h c fl d z r,v ≠ .s (.lent h c fl) d z r:=by
     intro v hv h c fl d z r g
     have:=List.all_eq_true.1 hall v hv
     rw [g] at this;simp [T.noLent] at this
    have hT:=Inv.take I (cs:=ts.zip cs.toList) hu (fun p hp=>by
      obtain ⟨i,hi⟩:=List.getElem?_of_mem hp
      rw [List.getElem?_zip_eq_some] at hi
      exact ⟨List.mem_of_getElem? hi.1,List.mem_of_getElem? hi.1,hvc.2 i _ _ hi.1 hi.2⟩)
     (fun p hp=>hnl p.1 (List.of_mem_zip hp).1) (fun b=>by rw [kP _ _ hvc.1];exact Nat.le_refl _) (by simp) (by simp)
    refine ⟨cs.toList,_,hT,⟨hvc,hm.1,hm.2.1,fun v hv => ?_,fun b => ?_⟩,by simp only [bI,if_true];exact hy⟩
    ·have hk':=hk v hv
     have:=hnl v hv
     cases v with
     | v x=>trivial
     | any=>trivial
     | s k d z r =>
      cases k with
      | own=>trivial
      | far=>exact hk'
      | lent h c fl=>exact absurd rfl (this h c fl d z r)
    ·rw [kP _ _ hvc.1];exact Nat.le_refl _
   ·cases e
  ·rename_i h c st lo len hu
   split at e
   ·rename_i hcond
    split at e
    ·rename_i d z rows hn
     rw [Option.map_eq_some_iff] at e
     obtain ⟨D2,hD2,e⟩:=e
     cases e
     have hv:=I.val t _ hu
     obtain ⟨d',z',n,ad,hnode,hle,hy,ha,ha0⟩:=hv
     obtain ⟨t0,k1,rows1,g1,g2,g3,g4,g5,g6⟩:=I.node hnode
     simp only [cf,g1,Option.bind_some] at hn
     rw [g3] at hn;cases hn
     have I1:=I.dead (co h c) (qHC h c)
     have g1':=eW (p:=co h c) (q:=qHC h c) g1 g2
     unfold cE at hD2
     rw [g1',Option.bind_some,Option.bind_eq_some_iff] at hD2
     obtain ⟨t',ht',hset⟩:=hD2
     obtain ⟨s0,hs0,hs0m,hr0,hr0',hb0⟩:=bD g1
     have hm0:=I.mem s0 hs0m
     have hN:NodeOk w w (.s .own d z rows) (.any:DT):=⟨.any,.any,fun _ h=>h.one,fun _ _ _=>rfl⟩
     obtain ⟨N,hc,hst,_⟩:=xr hN rfl st (hm0.1 t0 hr0) (hm0.2.1 t0 hr0' g2) (I.bl_once g1 g2) g3 ht'
     have hkind:t'.isOwn=true∨t' = .any:=by
      cases st with
      | nil=>right;cases g3;simp [eg] at ht';exact ht'.symm
      | cons p st=>left;exact (hst (by simp)).1
     have hcb:∀ b,(ownR t').count b+(bl (.s .own d z rows)).count b≤(ownR t0).count b:=by
      intro b
      have h1:=hc b
      have h0:(bl (.any:DT)).count b=0:=rfl
      have h2:ownR t0=bl t0:=by simp [ownR,g2]
      rw [h2]
      rcases hkind with h3 | h3
      ·have:ownR t'=bl t':=by simp [ownR,h3]
       rw [this];omega
      ·subst h3
       have:(ownR (.any:DT)).count b=0:=rfl
       omega
     have IU:=I1.upd (P':=(.s .own (mkD.win d lo z) z ((rows.drop lo).take len),a.tmps.getD t undef)::P0) (w':=w) hset
      {at_:=g1',own:=g2,holds:=N.holds,ownT:=fun _=>N.own,kind:=hkind,val:=N.val,
       cnt:=fun b=>by
        rw [hJ]
        have h1:=hcb b
        have h2:=nN (k := .own) (k' := .own) (d:=d) (z:=z) rows lo len b
        have h3:ownR (.s .own (mkD.win d lo z) z ((rows.drop lo).take len):DT)=bl (.s .own (mkD.win d lo z) z ((rows.drop lo).take len)):=by simp [ownR,T.isOwn]
        rw [h3]
        split
        ·omega
        ·rename_i hge
         have hz:¬ 0<aZ D b+aE P0 b:=fun q=>hge (I.bnd b q).2
         have h7:(ownR t0).count b=0:=by
          rcases Nat.eq_zero_or_pos ((ownR t0).count b) with q | q
          ·exact q
          ·have h5:ownR t0=bl t0:=by simp [ownR,g2]
           rw [h5] at q
           have:=bU hs0m (b:=b) (hb0 g2 b (List.count_pos_iff.1 q))
           omega
         show (ownR t').count b+((bl (.s .own (mkD.win d lo z) z ((rows.drop lo).take len):DT)).count b+aE P0 b)≤1
         omega,
       new:=fun b hb hpos=>by
        exfalso
        rw [hJ] at hpos
        have hz:¬ 0<aZ D b+aE P0 b:=fun q=>by have:=(I.bnd b q).2;omega
        have h1:=hcb b
        have h2:=nN (k := .own) (k' := .own) (d:=d) (z:=z) rows lo len b
        have h3:ownR (.s .own (mkD.win d lo z) z ((rows.drop lo).take len):DT)=bl (.s .own (mkD.win d lo z) z ((rows.drop lo).take len)):=by simp [ownR,T.isOwn]
        rw [h3] at hpos
        have hpos2:0<(ownR t').count b+((bl (.s .own (mkD.win d lo z) z ((rows.drop lo).take len):DT)).count b+aE P0 b):=hpos
        have h6:0<(ownR t0).count b:=by omega
        have h7:=bU hs0m (b:=b) (hb0 g2 b (by have h5:ownR t0=bl t0:=(by simp [ownR,g2]);rw [h5] at h6;exact List.count_pos_iff.1 h6))
        have:=(I.bnd b (by omega)).2
        omega,
       hides:=fun s hs=>(np s hs).1,
       speak:=fun s hs st hsp=>absurd hsp ((np s hs).2 st),
       size:=Nat.le_refl _,same:=fun _ _ _=>rfl,os:=rfl,tape:=rfl,output:=rfl,
       pend:=fun p hp=>by
        rcases List.mem_cons.1 hp with hp | hp
        case inr=>exact I.pend p hp
        subst hp
        refine ⟨?_,g5.win lo len (by omega),fun _=>g6.win lo len (by omega),fun h=>by cases h⟩
        show VT _ (a.tmps.getD t undef)
        rw [hy]
        exact vg (by omega) g5.cap g6.sp rfl ha ha0 g5.nilrows hcond }
     refine ⟨[a.tmps.getD t undef],[(.s .own (mkD.win d lo z) z ((rows.drop lo).take len),a.tmps.getD t undef)],IU,⟨.one ?_,fun v hv => ?_,fun v hv _ => ?_,fun v hv => ?_,fun b => ?_⟩,rfl⟩
     ·rw [hy]
      exact vg (by omega) g5.cap g6.sp rfl ha ha0 g5.nilrows hcond
     ·simp at hv;subst hv;exact g5.win lo len (by omega)
     ·simp at hv;subst hv;exact g6.win lo len (by omega)
     ·simp at hv;subst hv;trivial
     ·simp [aE]
    ·cases e
   ·cases e
  ·cases e
 ·cases e
theorem Inv.cellsTake {cx:Cx} {D:DSt} {a:Act} {w:World} (I:Inv cx D [] a.tmps w) {x:Operand} {g:Bool} {ts:List DT} {D':DSt} (e:cellsTake mkD D x=some (g,ts,D')) :
  ∃ ys P,Inv cx D' P a.tmps w∧Got cx D' w P ts ys∧bI g (a.eval x) ys:=by
 obtain ⟨ys,P,h1,h2,h3⟩:=I.cellsTakeP e
 rw [List.append_nil] at h1
 exact ⟨ys,P,h1,h2,h3⟩
end Go.Proofs.YtgaiiephdjllkaaGreatDoor.Am
namespace Go.Proofs.YtgaiiephdjllkaaGreatDoor.Am
set_option linter.unusedVariables false
set_option linter.unusedSimpArgs false
open Go
section
variable {δ β : Type}
def fm:Bool→List (T δ)→Option (Sl δ β)
 | true,ts=>some (.agg ts)
 | false,[t]=>some (.one t)
 | false,_=>none
end
theorem Got.grew {cx:Cx} {D:DSt} {w w':World} {P:List (DT×Value)} {ts:List DT} {ys:List Value} (h:Got cx D w P ts ys) (g:Grew w w'):Got cx D w' P ts ys :=
 ⟨h.v,fun t ht=>(h.holds t ht).frame fun b _ hb=>g.same b hb,fun t ht ho=>(h.own t ht ho).frame fun b _ hb=>g.same b hb,h.kind,h.cnt⟩
theorem FG {cx:Cx} {D:DSt} {w:World} {P:List (DT×Value)} {g:Bool} {ts:List DT} {ys:List Value} {y:Value} {s:DSl} (G:Got cx D w P ts ys) (hv:bI g y ys) (hs:fm g ts=some s) :
  VS D s y∧MemS w s∧dm cx D s∧∀ b,(ownBl s).count b≤aE P b:=by
 unfold fm at hs
 split at hs
 ·cases hs
  refine ⟨⟨ys.toArray,by simpa [bI] using hv,by simpa using G.v⟩,⟨G.holds,G.own,trivial⟩,G.kind,G.cnt⟩
 ·rename_i t
  cases hs
  have hy:ys=[y]:=by simpa [bI] using hv
  subst hy
  refine ⟨G.v.2 0 t y rfl rfl,⟨fun u hu=>G.holds u (by simpa [ai] using hu),fun u hu=>G.own u (by simpa [rootsO] using hu),trivial⟩,fun u hu=>G.kind u (by simpa [ai] using hu),fun b => ?_⟩
  have:=G.cnt b
  simpa [ownBl] using this
 ·cases hs
theorem Inv.putGot {cx:Cx} {D:DSt} {P:List (DT×Value)} {a:Act} {w:World} (I:Inv cx D P a.tmps w) {g:Bool} {ts:List DT} {ys:List Value} {y:Value} {s:DSl} (G:Got cx D w P ts ys)
  (hv:bI g y ys) (hs:fm g ts=some s) {dst:Option Nat} (ht:∀ t,dst=some t→t<D.length) (hd:dst.isSome=true):Inv cx (aL D dst s) [] (a.put dst y).tmps w:=by
 obtain ⟨h1,h2,h3,h4⟩:=FG G hv hs
 cases dst with
 | none=>cases hd
 | some t=>exact Inv.put (P:=P) (Q:=[]) (by rw [List.append_nil];exact I) (ht t rfl) h1 h2 h3 h4
theorem Inv.fresh {cx:Cx} {D:DSt} {P:List (DT×Value)} {tm:Array Value} {w w':World} (I:Inv cx D P tm w) (hs:w.heap.size<w'.heap.size) :
  ∀ b,0<(if b=w.heap.size then 1 else 0)→(if b=w.heap.size then 1 else 0)≤1∧aZ D b+aE P b=0∧cx.may b∧b<w'.heap.size:=by
 intro b hb
 split at hb
 ·rename_i e
  subst e
  refine ⟨by simp,?_,.inl I.frame.size,hs⟩
  rcases Nat.eq_zero_or_pos (aZ D w.heap.size+aE P w.heap.size) with g | g
  ·exact g
  ·have:=(I.bnd _ g).2;omega
 ·cases hb
theorem Inv.newBox {cx:Cx} {D:DSt} {P:List (DT×Value)} {a:Act} {w:World} (I:Inv cx D P a.tmps w) {ts:List DT} {ys:List Value} (G:Got cx D w P ts ys) (e:TypeId)
  {t:Nat} (ht:t<D.length):Inv cx (aL D (some t) (.box (w.heap.size,0) ts)) [] (a.put (some t) (.pointer (some ⟨w.heap.size,0,none⟩))).tmps (w.alloc (.cells ys.toArray e)):=by
 have g:=Grew.alloc w (.cells ys.toArray e)
 have I':=I.grew g
 have hnew:(w.alloc (.cells ys.toArray e)).heap[w.heap.size]?=some (.cells ys.toArray e (0,0)):=by
  show (w.heap.push _)[w.heap.size]?=_
  simp
 refine Inv.putF (P:=P) (Q:=[]) (by rw [List.append_nil];exact I') (fun b=>if b=w.heap.size then 1 else 0)
  (by rw [List.append_nil];exact I.fresh (by simp)) ht rfl ⟨(G.grew g).holds,(G.grew g).own,?_⟩ (G.kind) ?_
 ·refine ⟨⟨ys.toArray,e,(0,0),hnew,fun j u hj => ?_⟩,fun c e' lo hi hc x h1 h2 => ?_⟩
  ·have hlt:j<ys.length:=by
    rw [← G.v.1]
    rcases Nat.lt_or_ge j ts.length with g | g
    ·exact g
    ·rw [List.getElem?_eq_none g] at hj;cases hj
   exact ⟨ys[j],by simp [hlt],G.v.2 j u _ hj (List.getElem?_eq_getElem hlt)⟩
  ·simp only at hc
   rw [hnew] at hc;cases hc;omega
 ·intro b
  have:=G.cnt b
  simp only [ownBl,List.count_cons]
  split<;>rename_i hb
  ·simp at hb;subst hb;simp;omega
  ·have:¬ b=w.heap.size:=fun h=>hb (by simp [h])
   simp [this];omega
theorem Inv.newRows {cx:Cx} {D:DSt} {P:List (DT×Value)} {a:Act} {w w':World} (I:Inv cx D P a.tmps w) (g:Grew w w') (hs:w.heap.size<w'.heap.size) {d:Dec} {z:Nat} {rows:List (List DT)}
  (hd:d.b=w.heap.size∧d.nil=false) (hH:Holds w' (.s .own d z rows)) (hO:OwnT w' (.s .own d z rows))
  (hc:∀ b,(rows.flatMap fun x=>x.flatMap bl).count b≤aE P b) {t:Nat} (ht:t<D.length) {y:Value} (hy:VT (.s .own d z rows) y) :
  Inv cx (aL D (some t) (.one (.s .own d z rows))) [] (a.put (some t) y).tmps w':=by
 refine Inv.putF (P:=P) (Q:=[]) (by rw [List.append_nil];exact I.grew g) (fun b=>if b=w.heap.size then 1 else 0)
  (by rw [List.append_nil];exact I.fresh hs) ht hy ⟨fun u hu=>by simp [ai] at hu;subst hu;exact hH,fun u hu _=>by simp [rootsO] at hu;subst hu;exact hO,trivial⟩
  (fun u hu=>by simp [ai] at hu;subst hu;trivial) ?_
 intro b
 have h1:=hc b
 have h2:ownBl (.one (.s .own d z rows):DSl)=d.b::rows.flatMap fun x=>x.flatMap bl:=by
  simp [ownBl,ownR,T.isOwn,bW,hd.2]
 rw [h2,List.count_cons]
 split<;>rename_i hb
 ·simp at hb;subst hb;rw [hd.1] at *;simp;omega
 ·have:¬ b=w.heap.size:=fun h=>hb (by rw [hd.1,h];simp)
  simp [this];omega
end Go.Proofs.YtgaiiephdjllkaaGreatDoor.Am
namespace Go.Proofs.YtgaiiephdjllkaaGreatDoor.Am
set_option linter.unusedVariables false
set_option linter.unusedSimpArgs false
open Go
section
variable {δ β : Type}
def T.inj (nil:δ):T Unit→T δ
 | .v x => .v x
 | .any => .any
 | .s k _ z _ => .s k nil z []
def ao {α:Type} (l:List α) (o:Nat) (new:List α):List α:=l.take o++new++l.drop (o+new.length)
end
theorem db {α:Type} {l:List α} {o:Nat} {new:List α} (h:o+new.length≤l.length) (i:Nat) :
  (ao l o new)[i]?=if i<o then l[i]? else if i<o+new.length then new[i-o]? else l[i]?:=by
 unfold ao
 have h1:(l.take o).length=o:=by simp;omega
 by_cases hi:i<o
 ·rw [if_pos hi,List.append_assoc,List.getElem?_append_left (by omega),List.getElem?_take,if_pos hi]
 ·rw [if_neg hi,List.append_assoc,List.getElem?_append_right (by omega),h1]
  by_cases hi':i<o+new.length
  ·rw [if_pos hi',List.getElem?_append_left (by omega)]
  ·rw [if_neg hi',List.getElem?_append_right (by omega),List.getElem?_drop]
   congr 1;omega
theorem ix {α:Type} {l:List α} {o:Nat} {new:List α} (h:o+new.length≤l.length):(ao l o new).length=l.length:=by
 unfold ao;simp;omega
theorem VCells.splice {ts ts':List DT} {ys ys':List Value} (h:VCells ts ys) (h':VCells ts' ys') {o:Nat} (hl:o+ts'.length≤ts.length):VCells (ao ts o ts') (ao ys o ys'):=by
 have e1:=h.1
 have e2:=h'.1
 refine ⟨by rw [ix hl,ix (by omega)];exact e1,fun i t y hi hy => ?_⟩
 rw [db hl] at hi
 rw [db (by omega)] at hy
 rw [← e2] at hy
 split at hi
 ·rename_i h1;rw [if_pos h1] at hy;exact h.2 i t y hi hy
 ·rename_i h1
  rw [if_neg h1] at hy
  split at hi
  ·rename_i h2;rw [if_pos h2] at hy;exact h'.2 _ t y hi hy
  ·rename_i h2;rw [if_neg h2] at hy;exact h.2 i t y hi hy
theorem eC {α:Type} {l new:List α} {o:Nat} {x:α} (h:x∈ao l o new):x∈l∨x∈new:=by
 unfold ao at h
 simp only [List.mem_append] at h
 rcases h with (h | h) | h
 ·exact .inl (List.mem_of_mem_take h)
 ·exact .inr h
 ·exact .inl (List.mem_of_mem_drop h)
theorem lr {α:Type} (f:α→List Nat) (l new:List α) (o b:Nat):((ao l o new).flatMap f).count b≤(l.flatMap f).count b+(new.flatMap f).count b:=by
 unfold ao
 simp only [List.flatMap_append,List.count_append]
 have h:((l.take o).flatMap f).count b+((l.drop (o+new.length)).flatMap f).count b≤(l.flatMap f).count b:=by
  have h1:=xA f b (l:=l.take o++l.drop (o+new.length)) (l':=l) (by
   conv=>rhs;rw [← List.take_append_drop o l]
   refine List.Sublist.append_left ?_ _
   rw [← List.drop_drop]
   exact List.drop_sublist _ _)
  simpa [List.flatMap_append,List.count_append] using h1
 omega
theorem xJ:∀ (vs:List Value) (k:Nat) (off:Nat) (cells:Array Value),off+k+vs.length≤cells.size →
  ((vs.zipIdx k).foldl (fun (cs:Array Value) (p:Value×Nat)=>cs.setIfInBounds (off+p.2) p.1) cells).toList=ao cells.toList (off+k) vs
 | [],k,off,cells,h=>by simp [ao]
 | v::vs,k,off,cells,h=>by
  simp only [List.zipIdx_cons,List.foldl_cons]
  simp only [List.length_cons] at h
  rw [xJ vs (k+1) off _ (by simp;omega)]
  apply List.ext_getElem?
  intro i
  rw [db (by simp;omega),db (by simp;omega)]
  simp only [Array.toList_setIfInBounds,List.length_cons]
  by_cases h1:i<off+k
  ·rw [if_pos (show i<off+(k+1) by omega),if_pos h1,List.getElem?_set_ne (by omega)]
  ·by_cases h2:i=off+k
   ·subst h2
    rw [if_pos (show off+k<off+(k+1) by omega),if_neg h1,if_pos (show off+k<off+k+(vs.length+1) by omega),
     List.getElem?_set_self (by simp;omega)]
    simp
   ·by_cases h3:i<off+k+(vs.length+1)
    ·rw [if_neg (show ¬ i<off+(k+1) by omega),if_pos (show i<off+(k+1)+vs.length by omega),if_neg h1,if_pos h3]
     obtain ⟨j,hj⟩:∃ j,i-(off+k)=j+1:=⟨i-(off+k)-1,by omega⟩
     rw [hj,List.getElem?_cons_succ];congr 1;omega
    ·rw [if_neg (show ¬ i<off+(k+1) by omega),if_neg (show ¬ i<off+(k+1)+vs.length by omega),if_neg h1,if_neg h3,List.getElem?_set_ne (by omega)]
theorem eX (v:Array Value) (off:Nat) (cells:Array Value) (h:off+v.size≤cells.size) :
  (v.zipIdx.foldl (fun (cs:Array Value) (p:Value×Nat)=>cs.setIfInBounds (off+p.2) p.1) cells)=(ao cells.toList off v.toList).toArray:=by
 have:=xJ v.toList 0 off cells (by simpa using h)
 apply Array.ext'
 rw [← Array.foldl_toList,Array.toList_zipIdx,this]
 simp
theorem ik {P:Program} {t:TypeId} {w:World} {cx:Cx} {D:DSt} {ys:List Value} (h:ys.all (·.oneCell')=true):Got cx D w [] ((cR P t ys).map (T.inj nilD)) ys:=by
 have one:∀ n y,y.oneCell'=true→VT ((zT n y).inj nilD) y∧Holds w ((zT n y).inj nilD)∧OwnT w ((zT n y).inj nilD)∧bg cx D ((zT n y).inj nilD)∧bl ((zT n y).inj nilD)=[]:=by
  intro n y hy
  unfold zT
  split
  ·exact ⟨rfl,.e _ _ _,.nil _ _ rfl rfl rfl,trivial,by simp [T.inj,bW,nilD]⟩
  ·exact ⟨⟨rfl,hy⟩,.v _,.v _,trivial,rfl⟩
 have all:∀ u∈(cR P t ys).map (T.inj nilD),∃ n,∃ y∈ys,u=(zT n y).inj nilD:=by
  intro u hu
  simp only [List.mem_map,cR,List.mem_mapIdx] at hu
  obtain ⟨u',⟨j,hj,rfl⟩,rfl⟩:=hu
  exact ⟨_,ys[j],List.getElem_mem hj,rfl⟩
 rw [List.all_eq_true] at h
 refine ⟨⟨by simp [cR],fun i u y hi hy => ?_⟩,fun u hu => ?_,fun u hu _ => ?_,fun u hu => ?_,fun b => ?_⟩
 ·simp only [cR,List.getElem?_map,List.getElem?_mapIdx,hy,Option.map_some,Option.some.injEq] at hi
  subst hi
  exact (one _ y (h y (List.mem_of_getElem? hy))).1
 ·obtain ⟨n,y,hy,rfl⟩:=all u hu;exact (one n y (h y hy)).2.1
 ·obtain ⟨n,y,hy,rfl⟩:=all u hu;exact (one n y (h y hy)).2.2.1
 ·obtain ⟨n,y,hy,rfl⟩:=all u hu;exact (one n y (h y hy)).2.2.2.1
 ·have:((cR P t ys).map (T.inj nilD)).flatMap ownR=[]:=by
   rw [List.flatMap_eq_nil_iff]
   intro u hu
   obtain ⟨n,y,hy,rfl⟩:=all u hu
   have:=(one n y (h y hy)).2.2.2.2
   unfold ownR;split<;>simp [this]
  rw [this];simp
end Go.Proofs.YtgaiiephdjllkaaGreatDoor.Am
namespace Go.Proofs.YtgaiiephdjllkaaGreatDoor.Am
set_option linter.unusedVariables false
set_option linter.unusedSimpArgs false
open Go
theorem gS (b:Nat) (e:TypeId) (f:Nat×Nat):∀ (vs:List Value) (o:Nat) (w:World) (c:Array Value),w.heap[b]?=some (.cells c e f)→o+vs.length≤c.size →
  (w.setCells b o vs).heap[b]?=some (.cells (ao c.toList o vs).toArray e f)∧(∀ x,x≠b→(w.setCells b o vs).heap[x]?=w.heap[x]?) ∧
   (w.setCells b o vs).heap.size=w.heap.size∧(w.setCells b o vs).os=w.os∧(w.setCells b o vs).tape=w.tape∧(w.setCells b o vs).output=w.output
 | [],o,w,c,h,hl=>by
  refine ⟨?_,fun _ _=>rfl,rfl,rfl,rfl,rfl⟩
  rw [show w.setCells b o []=w from rfl,h]
  simp [ao]
 | v::vs,o,w,c,h,hl=>by
  simp only [List.length_cons] at hl
  have h1:(w.setCell ⟨b,o,none⟩ v).heap[b]?=some (.cells (c.setIfInBounds o v) e f):=by
   simp [World.setCell,Array.getElem?_modify,h]
  obtain ⟨g1,g2,g3,g4,g5,g6⟩:=gS b e f vs (o+1) _ _ h1 (by simp;omega)
  have hs:w.setCells b o (v::vs)=(w.setCell ⟨b,o,none⟩ v).setCells b (o+1) vs:=rfl
  rw [hs]
  refine ⟨?_,fun x hx => ?_,by rw [g3];simp [World.setCell],g4,g5,g6⟩
  ·rw [g1]
   congr 2
   apply Array.ext'
   simp only [Array.toList_setIfInBounds]
   apply List.ext_getElem?
   intro i
   rw [db (by simp;omega),db (by simp;omega)]
   simp only [List.length_cons]
   by_cases h1:i<o
   ·rw [if_pos (show i<o+1 by omega),if_pos h1,List.getElem?_set_ne (by omega)]
   ·by_cases h2:i=o
    ·subst h2
     rw [if_pos (show i<i+1 by omega),if_neg h1,if_pos (show i<i+(vs.length+1) by omega),List.getElem?_set_self (by simp;omega)]
     simp
    ·by_cases h3:i<o+(vs.length+1)
     ·rw [if_neg (show ¬ i<o+1 by omega),if_pos (show i<o+1+vs.length by omega),if_neg h1,if_pos h3]
      obtain ⟨j,hj⟩:∃ j,i-o=j+1:=⟨i-o-1,by omega⟩
      rw [hj,List.getElem?_cons_succ];congr 1;omega
     ·rw [if_neg (show ¬ i<o+1 by omega),if_neg (show ¬ i<o+1+vs.length by omega),if_neg h1,if_neg h3,List.getElem?_set_ne (by omega)]
  ·rw [g2 x hx]
   simp only [World.setCell,Array.getElem?_modify]
   rw [if_neg (by simpa using fun h=>hx h.symm)]
theorem wd {P:Program} {w:World} {b o:Nat} {c:Array Value} {e:TypeId} {lo hi:Nat} (h:w.heap[b]?=some (.cells c e (lo,hi))) {ys:List Value} (hl:o+ys.length≤c.size)
  (hf:∀ x,o≤x→x<o+ys.length→¬ (lo≤x∧x<hi)) (h1:∀ v∈ys,v.oneCell'=true):(storeCells ⟨b,o,none⟩ ys).run P w = .ok () (w.setCells b o ys):=by
 have:=run_storeCells_cells (P:=P) b o ys 0 w (fun j hj=>by rw [nI h];simp;omega) (fun j hj=>by
  simp only [World.frozen?,h,Nat.add_zero]
  have:=hf (o+j) (by omega) (by omega)
  simp only [Bool.and_eq_false_iff,decide_eq_false_iff_not]
  rcases Nat.lt_or_ge (o+j) lo with g | g
  ·left;omega
  ·right;intro g';exact this ⟨g,g'⟩) h1
 simpa using this
theorem VCells.cells1 {ts:List DT} {ys:List Value} (h:VCells ts ys):∀ v∈ys,v.oneCell'=true:=by
 intro v hv
 obtain ⟨i,hi⟩:=List.getElem?_of_mem hv
 have hlt:i<ts.length:=by
  rw [h.1]
  rcases Nat.lt_or_ge i ys.length with g | g
  ·exact g
  ·rw [List.getElem?_eq_none g] at hi;cases hi
 exact (h.2 i _ v (List.getElem?_eq_getElem hlt) hi).one
theorem uq {P:Program} {t:TypeId} {ti:TI} (ht:jv P t=some ti) {w:World} {b o:Nat} {c:Array Value} {e:TypeId} {lo hi:Nat} (h:w.heap[b]?=some (.cells c e (lo,hi)))
  {ys:List Value} {y:Value} {g:Bool} (hv:bI g y ys) (hg:g=false→y.oneCell'=true) (hn:ys.length=ti.size) (hl:o+ys.length≤c.size)
  (hf:∀ x,o≤x→x<o+ys.length→¬ (lo≤x∧x<hi)) (h1:∀ v∈ys,v.oneCell'=true) :
  (Instr.storeAt t (.pointer (some ⟨b,o,none⟩)) y).run P w = .ok () (w.setCells b o ys):=by
 have hc:y.cells=ys.toArray:=by
  cases g with
  | true=>simp only [bI,if_true] at hv;rw [hv];rfl
  | false =>
   simp only [bI,Bool.false_eq_true,if_false] at hv
   subst hv
   have:=hg rfl
   cases y<;>first | rfl | (simp [Value.oneCell'] at this)
 have hr:=wd (P:=P) h hl hf h1
 simp only [Instr.storeAt,Instr.sureAddr,storeVar,Sem.run_bind,Sem.run_pure,Result.andThen_ok,hc,iS ht]
 simp [hn,hr]
end Go.Proofs.YtgaiiephdjllkaaGreatDoor.Am
namespace Go.Proofs.YtgaiiephdjllkaaGreatDoor.Am
set_option linter.unusedVariables false
set_option linter.unusedSimpArgs false
open Go Go.ChangeShapes Go.Deep
mutual
inductive Ty where
 | bool
 | int (k:IntKind)
 | str
 | slice (e:Ty)
 | struct (fs:Fs)
inductive Fs where
 | nil
 | cons (t:Ty) (r:Fs)
end
mutual
def Ty.size:Ty→Nat
 | .struct fs=>fs.size
 | _=>1
def Fs.size:Fs→Nat
 | .nil=>0
 | .cons t r=>t.size+r.size
end
mutual
def Ty.ok (P:Program):Ty→TypeId→Bool
 | .bool,t=>match P.underlying t with | some .bool=>true | _=>false
 | .int k,t=>match P.underlying t with | some (.int k')=>decide (k'=k) | _=>false
 | .str,t=>match P.underlying t with | some .string=>true | _=>false
 | .slice e,t=>match P.underlying t with | some (.slice u)=>Ty.ok P e u&&P.cellsOf u==e.size&&e.size != 0 | _=>false
 | .struct fs,t=>match P.underlying t with | some (.struct a)=>Fs.ok P fs a.toList 0&&P.cellsOf t==fs.size | _=>false
def Fs.ok (P:Program):Fs→List Field→Nat→Bool
 | .nil,[],_=>true
 | .cons t r,f::fs,off=>f.offset==off&&P.cellsOf f.type==t.size&&Ty.ok P t f.type&&Fs.ok P r fs (off+t.size)
 | _,_,_=>false
end
mutual
def Shape {δ:Type}:Ty→List (T δ)→Prop
 | .bool,ts=>∃ b,ts=[.v (.bool b)]
 | .int k,ts=>∃ n,ts=[.v (.int k n)]∧(Lit.int k n).wf=true
 | .str,ts=>∃ s,ts=[.v (.string s)]∧s.size≤maxLen
 | .slice e,ts=>∃ d rows,ts=[.s .far d e.size rows]∧rows.length≤maxLen∧∀ r∈rows,Shape e r
 | .struct fs,ts=>ShapeF fs ts
def ShapeF {δ:Type}:Fs→List (T δ)→Prop
 | .nil,ts=>ts=[]
 | .cons t r,ts=>∃ xs ys,ts=xs++ys∧Shape t xs∧ShapeF r ys
end
structure Reads (w:World) (ts:List DT) (cs:List Value):Prop where
 cells:VCells ts cs
 holds:∀ u∈ts,Holds w u
 far:∀ u∈ts,u.isOwn=false∧∀ b∈bl u,b<w.heap.size
theorem Reads.nil (w:World):Reads w [] []:=⟨⟨rfl,fun i t y h=>by simp at h⟩,fun u h=>by simp at h,fun u h=>by simp at h⟩
theorem Reads.append {w:World} {ts us:List DT} {cs ds:List Value} (h:Reads w ts cs) (g:Reads w us ds):Reads w (ts++us) (cs++ds):=by
 refine ⟨⟨by simp [h.cells.1,g.cells.1],fun i t y hi hy => ?_⟩,fun u hu => ?_,fun u hu => ?_⟩
 ·rcases Nat.lt_or_ge i ts.length with hl | hl
  ·rw [List.getElem?_append_left hl] at hi
   rw [List.getElem?_append_left (by rw [← h.cells.1];exact hl)] at hy
   exact h.cells.2 i t y hi hy
  ·rw [List.getElem?_append_right hl] at hi
   rw [List.getElem?_append_right (by rw [← h.cells.1];exact hl), ← h.cells.1] at hy
   exact g.cells.2 _ t y hi hy
 ·rcases List.mem_append.1 hu with hu | hu
  ·exact h.holds u hu
  ·exact g.holds u hu
 ·rcases List.mem_append.1 hu with hu | hu
  ·exact h.far u hu
  ·exact g.far u hu
theorem Reads.one {w:World} {t:DT} {y:Value} (h:VT t y) (hh:Holds w t) (ho:t.isOwn=false) (hb:∀ b∈bl t,b<w.heap.size):Reads w [t] [y] :=
 ⟨.one h,fun u hu=>by simp at hu;subst hu;exact hh,fun u hu=>by simp at hu;subst hu;exact ⟨ho,hb⟩⟩
theorem Reads.val {w:World} {x:Value} (h:x.oneCell'=true):Reads w [.v x] [x] := .one ⟨rfl,h⟩ (.v x) rfl (fun b hb=>by simp [bl] at hb)
section
variable {H : Type} {enc : TypeId × Value → H} {P : Program} {w : World}
mutual
theorem Ty.open:∀ (ty:Ty) (n:Nat) (t:TypeId) (cs:List Value) (x:DataW H×List MemPlace),Ty.ok P ty t=true→DataW.trod enc P w 0 (fun _=>true) true n t cs=some x →
  ∃ ts,Reads w ts cs∧Shape ty ts∧cs.length=ty.size
 | .bool,0,t,cs,x,ho,h=>by simp [DataW.trod] at h
 | .bool,n+1,t,cs,x,ho,h=>by
  unfold Ty.ok at ho
  split at ho<;>try cases ho
  rename_i hu
  unfold DataW.trod at h
  rw [hu] at h
  split at h<;>simp_all
  rename_i b
  exact ⟨[.v (.bool b)],.val rfl,⟨b,rfl⟩,rfl⟩
 | .int k,0,t,cs,x,ho,h=>by simp [DataW.trod] at h
 | .int k,n+1,t,cs,x,ho,h=>by
  unfold Ty.ok at ho
  split at ho<;>try cases ho
  rename_i k' hu
  simp at ho;subst ho
  unfold DataW.trod at h
  rw [hu] at h
  split at h<;>simp_all
  rename_i k0 _ m _
  exact ⟨[.v (.int k0 m)],.val rfl,⟨m,rfl,h.1.2⟩,rfl⟩
 | .str,0,t,cs,x,ho,h=>by simp [DataW.trod] at h
 | .str,n+1,t,cs,x,ho,h=>by
  unfold Ty.ok at ho
  split at ho<;>try cases ho
  rename_i hu
  unfold DataW.trod at h
  rw [hu] at h
  split at h<;>simp_all
  rename_i s
  exact ⟨[.v (.string s)],.val rfl,⟨s,rfl,h.1⟩,rfl⟩
 | .slice e,n,t,cs,x,ho,h=>by
  unfold Ty.ok at ho
  split at ho<;>try cases ho
  rename_i u hu
  simp only [Bool.and_eq_true,beq_iff_eq,bne_iff_ne,ne_eq] at ho
  obtain ⟨⟨ho,hc⟩,hz⟩:=ho
  rcases open_slice hu h with ⟨rfl,_⟩ | ⟨a,len,cap,m,n',D,Pl,rfl,_,hl,hm,hmm,_,hx⟩
  ·refine ⟨[.s .far ⟨0,0,0,true,none⟩ e.size []],.one (by rfl) (.e _ _ _) rfl (fun b hb=>by simp [bW] at hb),⟨_,[],rfl,by simp,fun r hr=>by simp at hr⟩,rfl⟩
  ·simp only [if_true] at hmm
   subst hmm
   have key:∀ i,i<len→∃ row,(∃ vs,w.cells? 0 (a.add (i*e.size)) e.size=some vs∧Reads w row vs)∧Shape e row∧row.length=e.size:=by
    intro i hi
    obtain ⟨vs,h1,h2⟩:=hx i (by omega)
    obtain ⟨row,h3,h4,h5⟩:=Ty.open e n' u vs _ ho h2
    exact ⟨row,⟨vs,by rw [← hc];exact h1,h3⟩,h4,by rw [h3.cells.1,h5]⟩
   obtain ⟨R,hR⟩:=choose_lt key
   by_cases h0:len=0
   ·subst h0
    exact ⟨[.s .far ⟨0,0,m,true,some a⟩ e.size []],.one rfl (.e _ _ _) rfl (fun b hb=>by simp [bW] at hb),⟨_,_,rfl,by simp,fun r hr=>by simp at hr⟩,rfl⟩
   have hget:∀ (i:Nat) (row:List DT),((List.range len).map R)[i]?=some row→i<len∧row=R i:=by
    intro i row hi
    rcases Nat.lt_or_ge i len with g | g
    ·rw [List.getElem?_map,List.getElem?_range g] at hi
     cases hi;exact ⟨g,rfl⟩
    ·rw [List.getElem?_eq_none (by simpa using g)] at hi;cases hi
   obtain ⟨⟨vs0,v0,r0⟩,s0,l0⟩:=hR 0 (by omega)
   obtain ⟨_,hlen0,hcell0⟩:=World.cells?_some v0
   have hc0:=hcell0 0 (by omega)
   have ha0:(a.add (0*e.size)).add 0=a:=by simp [Addr.add]
   rw [ha0,List.getElem?_eq_getElem (by omega)] at hc0
   unfold World.cell? at hc0
   split at hc0
   case h_2=>cases hc0
   rename_i c e' f hb
   split at hc0
   ·cases hc0
   rename_i hsp
   have hsp':a.spot=none:=by simpa using hsp
   have hadd:∀ k,a.add k=⟨a.block,a.off+k,none⟩:=by
    intro k
    unfold Addr.add
    split
    ·rename_i hk;subst hk;cases a;simp_all
    ·rfl
   refine ⟨[.s .far ⟨a.block,a.off,m,false,none⟩ e.size ((List.range len).map R)],.one ?_ ?_ rfl ?_,⟨_,_,rfl,by simp;omega,?_⟩,rfl⟩
   ·have:a=⟨a.block,a.off,none⟩:=by cases a;simp_all
    simp only [VT,Dec.addr,List.length_map,List.length_range,Bool.false_eq_true,if_false]
    rw [← this]
   ·refine .s _ _ _ _ rfl rfl c e' f hb (by simp;omega) (fun i row hi => ?_) (fun i row j u hi hj => ?_) (fun i row j u hi hj => ?_)
    ·obtain ⟨g,rfl⟩:=hget i row hi
     exact (hR i g).2.2
    ·obtain ⟨g,rfl⟩:=hget i row hi
     obtain ⟨⟨vs,v1,r1⟩,s1,l1⟩:=hR i g
     obtain ⟨_,hlen1,hcell1⟩:=World.cells?_some v1
     have hjl:j<e.size:=by
      rcases Nat.lt_or_ge j (R i).length with q | q
      ·omega
      ·rw [List.getElem?_eq_none q] at hj;cases hj
     have h1:=hcell1 j hjl
     rw [List.getElem?_eq_getElem (by omega),hadd] at h1
     have h2:=r1.cells.2 j u _ hj (List.getElem?_eq_getElem (by omega))
     refine ⟨_,?_,h2⟩
     have e1:Addr.add ⟨a.block,a.off+i*e.size,none⟩ j=⟨a.block,a.off+i*e.size+j,none⟩:=by
      unfold Addr.add
      split
      ·rename_i hk;subst hk;rfl
      ·rfl
     rw [e1,nI hb] at h1
     exact h1
    ·obtain ⟨g,rfl⟩:=hget i row hi
     obtain ⟨vs,v1,r1⟩:=(hR i g).1
     exact r1.holds u (List.mem_of_getElem? hj)
   ·intro b hb'
    rw [bW] at hb'
    simp only [Bool.false_eq_true,if_false,List.mem_append,List.mem_singleton,List.mem_flatMap] at hb'
    rcases hb' with rfl | ⟨row,hrow,u,hu,hb'⟩
    ·exact cO hb
    ·obtain ⟨i,hi⟩:=List.getElem?_of_mem hrow
     obtain ⟨g,rfl⟩:=hget i row hi
     obtain ⟨vs,v1,r1⟩:=(hR i g).1
     exact (r1.far u hu).2 b hb'
   ·intro r hr
    obtain ⟨i,hi⟩:=List.getElem?_of_mem hr
    obtain ⟨g,rfl⟩:=hget i r hi
    exact (hR i g).2.1
 | .struct fs,n,t,cs,x,ho,h=>by
  unfold Ty.ok at ho
  split at ho<;>try cases ho
  rename_i a hu
  simp only [Bool.and_eq_true,beq_iff_eq] at ho
  obtain ⟨ho,hc⟩:=ho
  obtain ⟨xs,n',_,rfl,hl,hlen,hf⟩:=DataW.trod_struct hu h
  obtain ⟨ts,h1,h2⟩:=Fs.open fs a.toList 0 n' cs ho (by rw [hl,hc];omega) (fun f hf'=>by
   obtain ⟨i,hi⟩:=List.getElem?_of_mem hf'
   have:=hf i f (by simpa using hi)
   have hlt:i<xs.length:=by
    rw [hlen]
    rcases Nat.lt_or_ge i a.size with g | g
    ·exact g
    ·rw [List.getElem?_eq_none (by simpa using g)] at hi;cases hi
   rw [List.getElem?_eq_getElem hlt] at this
   exact ⟨_,this⟩)
  exact ⟨ts,by simpa using h1,h2,by rw [hl,hc];rfl⟩
theorem Fs.open:∀ (fs:Fs) (a:List Field) (off n:Nat) (cs:List Value),Fs.ok P fs a off=true→cs.length=off+fs.size →
  (∀ f∈a,∃ y,DataW.trod enc P w 0 (fun _=>true) true n f.type ((cs.drop f.offset).take (P.cellsOf f.type))=some y)→∃ ts,Reads w ts (cs.drop off)∧ShapeF fs ts
 | .nil,[],off,n,cs,ho,hl,h=>⟨[],by rw [List.drop_eq_nil_of_le (by simp [Fs.size] at hl;omega)];exact .nil w,rfl⟩
 | .nil,_::_,off,n,cs,ho,hl,h=>by simp [Fs.ok] at ho
 | .cons t r,[],off,n,cs,ho,hl,h=>by simp [Fs.ok] at ho
 | .cons t r,f::a,off,n,cs,ho,hl,h=>by
  simp only [Fs.ok,Bool.and_eq_true,beq_iff_eq] at ho
  obtain ⟨⟨⟨hoff,hc⟩,ht⟩,hr⟩:=ho
  simp only [Fs.size] at hl
  obtain ⟨y,hy⟩:=h f (by simp)
  rw [hoff,hc] at hy
  obtain ⟨xs,x1,x2,x3⟩:=Ty.open t n f.type _ y ht hy
  obtain ⟨ys,y1,y2⟩:=Fs.open r a (off+t.size) n cs hr (by omega) (fun g hg=>h g (by simp [hg]))
  refine ⟨xs++ys,?_,xs,ys,rfl,x2,y2⟩
  have:cs.drop off=(cs.drop off).take t.size++cs.drop (off+t.size):=by
   rw [← List.drop_drop,List.take_append_drop]
  rw [this]
  exact x1.append y1
end
end
end Go.Proofs.YtgaiiephdjllkaaGreatDoor.Am
namespace Go.Proofs.YtgaiiephdjllkaaGreatDoor.Am
set_option linter.unusedVariables false
set_option linter.unusedSimpArgs false
open Go
def atR (h off n:Nat):Nat→Nat→Bool:=fun h' c=>h'==h&&decide (off≤c)&&decide (c<off+n)
def qR (h off n:Nat):Nat→Nat→Bool→Bool:=fun h' c _=>atR h off n h' c
theorem Got.dead {cx:Cx} {D:DSt} {w:World} {P:List (DT×Value)} {ts:List DT} {ys:List Value} (G:Got cx D w P ts ys) (p:Nat→Nat→Bool) (q:Nat→Nat→Bool→Bool) :
  Got cx (St.dead p q D) w P (ts.map (T.dead p)) ys:=by
 refine ⟨pa G.v,fun t ht => ?_,fun t ht ho => ?_,fun t ht => ?_,fun b => ?_⟩
 ·obtain ⟨u,hu,rfl⟩:=List.mem_map.1 ht
  exact C0 (G.holds u hu)
 ·obtain ⟨u,hu,rfl⟩:=List.mem_map.1 ht
  rcases T.dead_cases p u with e | ⟨e,_⟩
  ·rw [e] at ho ⊢;exact G.own u hu ho
  ·rw [e] at ho;cases ho
 ·obtain ⟨u,hu,rfl⟩:=List.mem_map.1 ht
  rcases T.dead_cases p u with e | ⟨e,_⟩
  ·rw [e];exact u5 (fun h c t=>eW) (G.kind u hu)
  ·rw [e];trivial
 ·have:(ts.map (T.dead p)).flatMap ownR=ts.flatMap ownR:=by
   rw [List.flatMap_map]
   simp only [s7]
  rw [this];exact G.cnt b
theorem Inv.box_got {cx:Cx} {D:DSt} {P:List (DT×Value)} {tm:Array Value} {w:World} (I:Inv cx D P tm w) {h:Nat} {b:Nat×Nat} {ts:List DT} (hb:D[h]?=some (.box b ts))
  {us:List DT} {ys:List Value} (G:Got cx D w P us ys) {v:DT} (hv:v∈us):b.1∉bl v:=by
 intro hm
 have hmay:=(I.box_may hb).1
 have hk:=G.kind v hv
 cases v with
 | v x=>simp [bl] at hm
 | any=>simp [bl] at hm
 | s k d z r =>
  cases k with
  | far=>exact Cx.far_not (hk _ hm) hmay
  | lent h' c' fl =>
   obtain ⟨t',g1,g2,g3,g3r⟩:=hk
   exact I.box_tree hb g1 g2 (g3 _ hm)
  | own =>
   have h1:=I.once b.1
   have h2:=G.cnt b.1
   have h3:=bU (b:=b.1) (List.mem_of_getElem? hb) (by simp [ownBl])
   have h4:0<(us.flatMap ownR).count b.1:=List.count_pos_iff.2 (List.mem_flatMap.2 ⟨_,hv,by simp only [ownR,T.isOwn,if_true];exact hm⟩)
   omega
theorem iy {α:Type} {l:List α} {o:Nat} {new:List α} (h:o+new.length≤l.length) {i:Nat} (hi:¬ (o≤i∧i<o+new.length)):(ao l o new)[i]?=l[i]?:=by
 rw [db h]
 split
 ·rfl
 ·split
  ·omega
  ·rfl
theorem Inv.storeBox {cx:Cx} {D:DSt} {P:List (DT×Value)} {tm:Array Value} {w:World} (I:Inv cx D P tm w) {h:Nat} {b:Nat×Nat} {ts:List DT} (hb:D[h]?=some (.box b ts))
  {us:List DT} {ys:List Value} (G:Got cx D w P us ys) {off:Nat} (hl:off+us.length≤ts.length) (hpos:0<us.length) :
  (∃ c e lo hi,w.heap[b.1]?=some (.cells c e (lo,hi))∧b.2+off+ys.length≤c.size∧∀ x,b.2+off≤x→x<b.2+off+ys.length→¬ (lo≤x∧x<hi)) ∧
  Inv cx ((St.dead (atR h off us.length) (qR h off us.length) D).set h (.box b (ao (ts.map (T.dead (atR h off us.length))) off (us.map (T.dead (atR h off us.length))))))
   [] tm (w.setCells b.1 (b.2+off) ys):=by
 have hlen:=G.v.1
 obtain ⟨⟨c,e,⟨lo,hi⟩,hh,hv⟩,hfree⟩:=(I.mem _ (List.mem_of_getElem? hb)).2.2
 have hsz:b.2+ts.length≤c.size:=by
  obtain ⟨y,hy,_⟩:=hv (ts.length-1) _ (List.getElem?_eq_getElem (by omega))
  rcases Nat.lt_or_ge (b.2+(ts.length-1)) c.size with g | g
  ·omega
  ·rw [Array.getElem?_eq_none g] at hy;cases hy
 have hfr:∀ x,b.2+off≤x→x<b.2+off+ys.length→¬ (lo≤x∧x<hi):=fun x h1 h2=>hfree c e lo hi hh x (by omega) (by omega)
 refine ⟨⟨c,e,lo,hi,hh,by omega,hfr⟩,?_⟩
 obtain ⟨f1,f2,f3,f4,f5,f6⟩:=gS b.1 e (lo,hi) ys (b.2+off) w c hh (by omega)
 have I2:=I.dead (atR h off us.length) (qR h off us.length)
 have G2:=G.dead (atR h off us.length) (qR h off us.length)
 have hb2:=zl (p:=atR h off us.length) (q:=qR h off us.length) hb
 have hq:∀ {h' c':Nat},atR h off us.length h' c'=true→∀ s∈St.dead (atR h off us.length) (qR h off us.length) D,¬ mH h' c' s∧((∀ b,qR h off us.length h' c' b=true)→∀ st,¬ l3 h' c' st s)∧((qR h off us.length h' c' true=true)→∀ st,l3 h' c' st s→st=[]) :=
  fun hp=>ki hp
 generalize hD2:St.dead (atR h off us.length) (qR h off us.length) D=D2 at I2 G2 hb2 hq ⊢
 generalize ht2:ts.map (T.dead (atR h off us.length))=ts2 at hb2 ⊢
 generalize hu2:us.map (T.dead (atR h off us.length))=us2 at G2 ⊢
 have hlt2:ts2.length=ts.length:=by rw [← ht2];simp
 have hlu2:us2.length=us.length:=by rw [← hu2];simp
 have hl2:off+us2.length≤ts2.length:=by omega
 have hm2:=I2.mem _ (List.mem_of_getElem? hb2)
 have hframe:∀ t:DT,b.1∉bl t→∀ x∈bl t,x<w.heap.size→(w.setCells b.1 (b.2+off) ys).heap[x]?=w.heap[x]?:=fun t ht x hx _=>f2 x (fun e=>ht (e ▸ hx))
 refine I2.boxSet (ts:=ts2) ⟨hb2,ix hl2,?_,?_,?_,?_,?_,?_,?_,?_,?_,?_,?_,?_,?_⟩
 ·
  refine ⟨_,e,(lo,hi),f1,fun j t hj => ?_⟩
  obtain ⟨c2,e2,fz2,hh2,hv2⟩:=hm2.2.2.1
  rw [hh] at hh2;cases hh2
  rw [db hl2] at hj
  have hcl:b.2+off+ys.length≤c.toList.length:=by simp;omega
  simp only [List.getElem?_toArray]
  rw [db hcl]
  split at hj
  ·rename_i h1
   rw [if_pos (by omega)]
   simpa using hv2 j t hj
  ·split at hj
   ·rename_i h1 h2
    rw [if_neg (by omega),if_pos (by omega)]
    have hlt:j-off<ys.length:=by omega
    refine ⟨ys[j-off],?_,?_⟩
    ·rw [show b.2+j-(b.2+off)=j-off by omega];exact List.getElem?_eq_getElem hlt
    ·exact G2.v.2 _ t _ hj (List.getElem?_eq_getElem hlt)
   ·rename_i h1 h2
    rw [if_neg (by omega),if_neg (by omega)]
    simpa using hv2 j t hj
 ·intro c' e' lo' hi' hc x h1 h2
  rw [f1] at hc;cases hc
  exact hfree c e lo hi hh x h1 (by omega)
 ·intro t ht
  rcases eC ht with ht | ht
  ·exact (hm2.1 t ht).frame (hframe t (I2.box_root hb2 hb2 ht))
  ·exact (G2.holds t ht).frame (hframe t (I2.box_got hb2 G2 ht))
 ·intro t ht ho
  rcases eC ht with ht | ht
  ·exact (hm2.2.1 t ht ho).frame (hframe t (I2.box_root hb2 hb2 ht))
  ·exact (G2.own t ht ho).frame (hframe t (I2.box_got hb2 G2 ht))
 ·intro t ht
  have hk:bg cx D2 t:=by
   rcases eC ht with ht | ht
   ·exact I2.kind _ (List.mem_of_getElem? hb2) t ht
   ·exact G2.kind t ht
  have hnl:∀ c fl d z r,off≤c→c<off+us.length→t ≠ .s (.lent h c fl) d z r:=by
   intro c fl d z r h1 h2 e
   have key:∀ u:DT,u.dead (atR h off us.length) ≠ .s (.lent h c fl) d z r:=by
    intro u hu
    rcases T.dead_cases (atR h off us.length) u with e' | ⟨e',_⟩
    ·rw [e'] at hu;subst hu
     have:(T.s (.lent h c fl) d z r:DT).dead (atR h off us.length) = .any:=by simp [T.dead,atR,h1,h2]
     rw [this] at e';cases e'
    ·rw [e'] at hu;cases hu
   subst e
   rcases eC ht with ht | ht
   ·rw [← ht2] at ht;obtain ⟨u,_,hu⟩:=List.mem_map.1 ht;exact key u hu
   ·rw [← hu2] at ht;obtain ⟨u,_,hu⟩:=List.mem_map.1 ht;exact key u hu
  cases t with
  | v x=>trivial
  | any=>trivial
  | s k d z r =>
   cases k with
   | own=>trivial
   | far=>exact hk
   | lent h' c' fl =>
    obtain ⟨t',g1,g2,g3⟩:=hk
    refine ⟨t',?_,g2,g3⟩
    by_cases e:h'=h
    ·subst e
     have hout:¬ (off≤c'∧c'<off+us2.length):=fun ⟨h1,h2⟩=>hnl c' fl d z r h1 (by omega) rfl
     have hlt:h'<D2.length:=by
      rcases Nat.lt_or_ge h' D2.length with g | g
      ·exact g
      ·rw [List.getElem?_eq_none g] at hb2;cases hb2
     simp only [am,hb2,Option.bind_some,aI] at g1
     simp only [am,List.getElem?_set_self hlt,Option.bind_some,aI]
     rw [iy hl2 hout];exact g1
    ·rw [jz e];exact g1
 ·intro x
  have h1:=lr ownR ts2 us2 off x
  have h2:=G2.cnt x
  rw [bZ]
  omega
 ·intro c' t hc ho
  by_cases hin:off≤c'∧c'<off+us2.length
  ·right
   have hp:atR h off us.length h c'=true:=by simp [atR,hin.1];omega
   refine ⟨fun s hs => ?_,fun s hs st => ?_⟩
   ·exact (hq hp s hs).1
   ·exact (hq hp s hs).2.1 (fun b=>hp) st
  ·left
   rw [iy hl2 hin];exact hc
 ·omega
 ·exact fun x _ hx=>f2 x hx
 ·exact f4
 ·exact f5
 ·exact f6
 ·intro p hp;cases hp
end Go.Proofs.YtgaiiephdjllkaaGreatDoor.Am
namespace Go.Proofs.YtgaiiephdjllkaaGreatDoor.Am
set_option linter.unusedVariables false
set_option linter.unusedSimpArgs false
open Go
section
variable {δ : Type}
def T.flat:T δ→Bool
 | .s _ _ _ _=>false
 | _=>true
def setRow (i off:Nat) (us:List (T δ)):T δ→Option (T δ)
 | .s k d z rows=>(rows[i]?).bind fun row=>if off+us.length≤row.length then some (.s k d z (rows.set i (ao row off us))) else none
 | _=>none
end
theorem vS {f:DT→Option DT} {n n':DT} (hf:f n=some n') (K:∀ st' d z m,i7 n st' d z m→i7 n' st' d z m):∀ (st:List (Nat×Nat)) {t t':DT},
  getN t st=some n→eg f t st=some t'→∀ st' d z m,i7 t st' d z m→i7 t' st' d z m
 | [],t,t',hg,hu,st',d,z,m,h=>by
  cases hg
  simp only [eg,hf] at hu
  cases hu
  exact K st' d z m h
 | (i,c)::st,t,t',hg,hu,st',d,z,m,h=>by
  cases t with
  | v x=>simp [getN] at hg
  | any=>simp [getN] at hg
  | s k0 d0 z0 rows =>
   simp only [getN,Option.bind_eq_some_iff] at hg
   obtain ⟨u,⟨row,hi,hj⟩,hg⟩:=hg
   simp only [eg,hi,hj,Option.bind_some,Option.map_eq_some_iff] at hu
   obtain ⟨u',hu,rfl⟩:=hu
   have ih:=vS hf K st hg hu
   have hilt:i<rows.length:=by
    rcases Nat.lt_or_ge i rows.length with g | g
    ·exact g
    ·rw [List.getElem?_eq_none g] at hi;cases hi
   have hclt:c<row.length:=by
    rcases Nat.lt_or_ge c row.length with g | g
    ·exact g
    ·rw [List.getElem?_eq_none g] at hj;cases hj
   obtain ⟨k1,rows1,g1,g2⟩:=h
   cases st' with
   | nil =>
    cases g1
    exact ⟨_,_,rfl,by simpa using g2⟩
   | cons p st' =>
    obtain ⟨i',c'⟩:=p
    simp only [getN,Option.bind_eq_some_iff] at g1
    obtain ⟨v,⟨row',hi',hj'⟩,g1⟩:=g1
    by_cases e:i'=i∧c'=c
    ·obtain ⟨rfl,rfl⟩:=e
     rw [hi] at hi';cases hi'
     rw [hj] at hj';cases hj'
     obtain ⟨k2,rows2,q1,q2⟩:=ih st' d z m ⟨k1,rows1,g1,g2⟩
     refine ⟨k2,rows2,?_,q2⟩
     simp only [getN]
     rw [List.getElem?_set_self hilt]
     simp only [Option.bind_some]
     rw [List.getElem?_set_self hclt]
     exact q1
    ·refine ⟨k1,rows1,?_,g2⟩
     simp only [getN]
     by_cases ei:i'=i
     ·subst ei
      rw [hi] at hi';cases hi'
      have ec:¬ c=c':=fun h=>e ⟨rfl,h.symm⟩
      rw [List.getElem?_set_self hilt]
      simp only [Option.bind_some]
      rw [List.getElem?_set_ne ec,hj']
      exact g1
     ·rw [List.getElem?_set_ne (fun h=>ei h.symm),hi']
      simp only [Option.bind_some]
      rw [hj']
      exact g1
theorem Ay {k:Kd} {d0:Dec} {z0:Nat} {rows:List (List DT)} {i off:Nat} {row us:List DT} (hi:rows[i]?=some row) (hl:off+us.length≤row.length)
  (hflat:∀ c,off≤c→c<off+us.length→∀ t,row[c]?=some t→t.flat=true) (st':List (Nat×Nat)) (d:Dec) (z m:Nat) (h:i7 (.s k d0 z0 rows) st' d z m) :
  i7 (.s k d0 z0 (rows.set i (ao row off us))) st' d z m:=by
 have hilt:i<rows.length:=by
  rcases Nat.lt_or_ge i rows.length with g | g
  ·exact g
  ·rw [List.getElem?_eq_none g] at hi;cases hi
 obtain ⟨k1,rows1,g1,g2⟩:=h
 cases st' with
 | nil =>
  cases g1
  exact ⟨_,_,rfl,by simpa using g2⟩
 | cons p st' =>
  obtain ⟨i',c'⟩:=p
  simp only [getN,Option.bind_eq_some_iff] at g1
  obtain ⟨v,⟨row',hi',hj'⟩,g1⟩:=g1
  refine ⟨k1,rows1,?_,g2⟩
  simp only [getN]
  by_cases ei:i'=i
  ·subst ei
   rw [hi] at hi';cases hi'
   rw [List.getElem?_set_self hilt]
   simp only [Option.bind_some]
   by_cases hin:off≤c'∧c'<off+us.length
   ·have:=hflat c' hin.1 hin.2 v hj'
    cases v with
    | s k d z r=>cases this
    | v x=>cases st' with
     | nil=>cases g1
     | cons p q=>simp [getN] at g1
    | any=>cases st' with
     | nil=>cases g1
     | cons p q=>simp [getN] at g1
   ·rw [iy hl hin,hj']
    exact g1
  ·rw [List.getElem?_set_ne (fun h=>ei h.symm),hi']
   simp only [Option.bind_some]
   rw [hj']
   exact g1
theorem Inv.got_apart {cx:Cx} {D:DSt} {P:List (DT×Value)} {tm:Array Value} {w:World} (I:Inv cx D P tm w) {h c:Nat} {t:DT} (hc:am D h c=some t) (ho:t.isOwn=true)
  {us:List DT} {ys:List Value} (G:Got cx D w P us ys) {v:DT} (hv:v∈us) (hf:v.fine=true) {b:Nat} (hb:b∈bl t) (hb':b∈bl v):False:=by
 cases v with
 | v x=>simp [bl] at hb'
 | any=>simp [bl] at hb'
 | s k d z r =>
  cases k with
  | far=>cases hf
  | lent h' c' fl=>cases hf
  | own =>
   obtain ⟨s,g1,g2,g3,g3',g4⟩:=bD hc
   have h1:=I.once b
   have h2:=G.cnt b
   have h3:=bU (b:=b) g2 (g4 ho b hb)
   have h4:0<(us.flatMap ownR).count b:=List.count_pos_iff.2 (List.mem_flatMap.2 ⟨_,hv,by simp only [ownR,T.isOwn,if_true];exact hb'⟩)
   omega
theorem pi {t:DT} (h:t.fine=true):t.isOwn=true∨bl t=[]:=by
 cases t with
 | v x=>right;simp [bl]
 | any=>right;simp [bl]
 | s k d z r=>cases k<;>first | (left;rfl) | cases h
theorem mJ {w:World} {t:DT} (hf:t.fine=true) (h:t.isOwn=true→OwnT w t):OwnT w t:=by
 cases t with
 | v x=>exact .v x
 | any=>exact .any
 | s k d z r=>cases k<;>first | exact h rfl | cases hf
theorem lh {i i' z j:Nat} (h:i'<i) (hj:j<z):i'*z+j<i*z:=by
 have:(i'+1)*z≤i*z:=Nat.mul_le_mul_right _ h
 rw [Nat.add_mul] at this;omega
theorem fW:∀ (st:List (Nat×Nat)) {t n:DT},getN t st=some n→∀ b,(bl n).count b≤(bl t).count b
 | [],t,n,h,b=>by cases h;exact Nat.le_refl _
 | (i,c)::st,t,n,h,b=>by
  cases t with
  | v x=>simp [getN] at h
  | any=>simp [getN] at h
  | s k d z rows =>
   simp only [getN,Option.bind_eq_some_iff] at h
   obtain ⟨u,⟨row,hi,hj⟩,hg⟩:=h
   have h1:=fW st hg b
   have h2:=yV (k:=k) (d:=d) (z:=z) hi hj b
   omega
theorem NodeOk.setRow {cx:Cx} {D:DSt} {P:List (DT×Value)} {tm:Array Value} {w:World} (I:Inv cx D P tm w) {h c:Nat} {t:DT} (hc:am D h c=some t) (hto:t.isOwn=true)
  {st:List (Nat×Nat)} {k:Kd} {d:Dec} {z:Nat} {rows:List (List DT)} (hn:getN t st=some (.s k d z rows)) {i off:Nat} {row us:List DT} {ys:List Value} (hi:rows[i]?=some row)
  (G:Got cx D w P us ys) (hfine:∀ u∈us,u.fine=true) (hl:off+us.length≤row.length) :
  (∃ cc e lo hi',w.heap[d.b]?=some (.cells cc e (lo,hi'))∧d.o+i*z+off+ys.length≤cc.size∧∀ x,d.o+i*z+off≤x→x<d.o+i*z+off+ys.length→¬ (lo≤x∧x<hi')) ∧
  (d.nil=false∧d.b<w.heap.size∧d.b∈bl t) ∧
  NodeOk w (w.setCells d.b (d.o+i*z+off) ys) (.s k d z rows) (.s k d z (rows.set i (ao row off us))):=by
 have hlen:=G.v.1
 obtain ⟨s,hs,hsm,hr,hr',hsub⟩:=bD hc
 have hm:=I.mem s hsm
 have hH:=Holds.getN st (hm.1 t hr) hn
 have hO:=OwnT.getN st (hm.2.1 t hr' hto) hn
 have hilt:i<rows.length:=by
  rcases Nat.lt_or_ge i rows.length with g | g
  ·exact g
  ·rw [List.getElem?_eq_none g] at hi;cases hi
 cases hH with
 | e=>simp at hilt
 | s _ _ _ _ hnil hsp cc e f hb hcap hz hv hh =>
  cases hO with
  | nil=>simp at hilt
  | s _ _ _ hnil' hsp' c1 e1 lo hi1 hb1 hcap1 hroom hfr hho =>
   rw [hb] at hb1;cases hb1
   have hzr:=hz i row hi
   have hle:(i+1)*z≤d.cap*z:=Nat.mul_le_mul_right _ (by omega)
   rw [Nat.add_mul] at hle
   have hsz:d.o+i*z+off+ys.length≤cc.size:=by omega
   have hdbn:d.b∈bl (.s .own d z rows:DT):=iM hnil
   have hdb:d.b∈bl t:=pI st hn d.b hdbn
   refine ⟨⟨cc,e,lo,hi1,hb,hsz,fun x h1 h2=>hfr x (by omega) (by omega)⟩,⟨hnil,cO hb,hdb⟩,?_⟩
   obtain ⟨f1,f2,f3,f4,f5,f6⟩:=gS d.b e (lo,hi1) ys (d.o+i*z+off) w cc hb hsz
   have hone:=I.bl_once hc hto d.b
   have hbelow:∀ (i':Nat) (row':List DT) (j:Nat) (u:DT),rows[i']?=some row'→row'[j]?=some u→d.b∉bl u:=by
    intro i' row' j u h1 h2 hm
    have q1:=yV (k := .own) (d:=d) (z:=z) h1 h2 d.b
    rw [hnil] at q1
    simp only [Bool.false_eq_true,if_false] at q1
    have q2:(bl (.s .own d z rows:DT)).count d.b≤1:=by
     refine Nat.le_trans ?_ hone
     exact fW st hn d.b
    have q3:0<(bl u).count d.b:=List.count_pos_iff.2 hm
    simp at q1;omega
   have hframe:∀ u:DT,d.b∉bl u→∀ x∈bl u,x<w.heap.size→(w.setCells d.b (d.o+i*z+off) ys).heap[x]?=w.heap[x]?:=fun u hu x hx _=>f2 x (fun e=>hu (e ▸ hx))
   have hgot:∀ u∈us,d.b∉bl u:=fun u hu hm=>I.got_apart hc hto G hu (hfine u hu) hdb hm
   have hcell:∀ (i':Nat) (row':List DT) (j:Nat) (u:DT),(rows.set i (ao row off us))[i']?=some row'→row'[j]?=some u →
     (∃ row0,rows[i']?=some row0∧row0[j]?=some u∧¬ (i'=i∧off≤j∧j<off+us.length))∨(i'=i∧off≤j∧j<off+us.length∧us[j-off]?=some u):=by
    intro i' row' j u h1 h2
    by_cases e:i'=i
    ·subst e
     rw [List.getElem?_set_self hilt] at h1
     cases h1
     by_cases hin:off≤j∧j<off+us.length
     ·right
      rw [db hl,if_neg (by omega),if_pos (by omega)] at h2
      exact ⟨rfl,hin.1,hin.2,h2⟩
     ·left
      rw [iy hl hin] at h2
      exact ⟨row,hi,h2,fun g=>hin g.2⟩
    ·left
     rw [List.getElem?_set_ne (fun g=>e g.symm)] at h1
     exact ⟨row',h1,h2,fun g=>e g.1⟩
   refine ⟨?_,?_,?_,?_⟩
   ·refine .s _ _ _ _ hnil hsp _ e (lo,hi1) f1 (by simpa using hcap) (fun i' row' h1 => ?_) (fun i' row' j u h1 h2 => ?_) (fun i' row' j u h1 h2 => ?_)
    ·by_cases e:i'=i
     ·subst e
      rw [List.getElem?_set_self hilt] at h1;cases h1
      rw [ix hl];exact hzr
     ·rw [List.getElem?_set_ne (fun g=>e g.symm)] at h1
      exact hz i' row' h1
    ·have hcl:d.o+i*z+off+ys.length≤cc.toList.length:=by simpa using hsz
     simp only [List.getElem?_toArray]
     rcases hcell i' row' j u h1 h2 with ⟨row0,g1,g2,g3⟩ | ⟨rfl,g1,g2,g3⟩
     ·obtain ⟨y,y1,y2⟩:=hv i' row0 j u g1 g2
      refine ⟨y,?_,y2⟩
      have hj:j<z:=by
       have:=hz i' row0 g1
       rcases Nat.lt_or_ge j row0.length with q | q
       ·omega
       ·rw [List.getElem?_eq_none q] at g2;cases g2
      rw [iy hcl ?_]
      ·simpa using y1
      ·intro hin
       rcases Nat.lt_trichotomy i' i with q | q | q
       ·have:=lh q hj;omega
       ·subst q;exact g3 ⟨rfl,by omega,by omega⟩
       ·have:=lh (j:=off+us.length-1) (z:=z) q (by omega);omega
     ·have hlt:j-off<ys.length:=by omega
      rw [db hcl,if_neg (by omega),if_pos (by omega)]
      refine ⟨ys[j-off],?_,G.v.2 _ u _ g3 (List.getElem?_eq_getElem hlt)⟩
      rw [show d.o+i'*z+j-(d.o+i'*z+off)=j-off by omega]
      exact List.getElem?_eq_getElem hlt
    ·rcases hcell i' row' j u h1 h2 with ⟨row0,g1,g2,_⟩ | ⟨_,_,_,g3⟩
     ·exact (hh i' row0 j u g1 g2).frame (hframe u (hbelow i' row0 j u g1 g2))
     ·exact (G.holds u (List.mem_of_getElem? g3)).frame (hframe u (hgot u (List.mem_of_getElem? g3)))
   ·refine .s _ _ _ hnil hsp _ e lo hi1 f1 (by simpa using hcap) ?_ hfr (fun i' row' j u h1 h2 => ?_)
    ·simp only [List.size_toArray]
     rw [ix (by simpa using hsz)]
     simpa using hroom
    ·rcases hcell i' row' j u h1 h2 with ⟨row0,g1,g2,_⟩ | ⟨_,_,_,g3⟩
     ·exact (hho i' row0 j u g1 g2).frame (hframe u (hbelow i' row0 j u g1 g2))
     ·have hu:=List.mem_of_getElem? g3
      exact (mJ (hfine u hu) (G.own u hu)).frame (hframe u (hgot u hu))
   ·intro y hy
    simpa [VT] using hy
   ·intro x _ hx
    exact f2 x fun e=>hx (e ▸ hdbn)
end Go.Proofs.YtgaiiephdjllkaaGreatDoor.Am
namespace Go.Proofs.YtgaiiephdjllkaaGreatDoor.Am
set_option linter.unusedVariables false
set_option linter.unusedSimpArgs false
open Go
def qSt (sc:Bool) (h c:Nat):Nat→Nat→Bool→Bool:=if sc then qNo else jL h c
theorem kE {D:DSt} {h c:Nat} {t:DT} (hc:am D h c=some t) (ho:t.isOwn=true) (b:Nat):(bl t).count b≤aZ D b:=by
 unfold am at hc
 simp only [Option.bind_eq_some_iff] at hc
 obtain ⟨cs,⟨s,hs,hcs⟩,ht⟩:=hc
 have h2:=bj ownR (T.any:DT) b cs c t ht
 have h0:(ownR (T.any:DT)).count b=0:=rfl
 have h3:ownR t=bl t:=by simp [ownR,ho]
 have h4:=lO hcs b
 have h5:=bj ownBl (Sl.any:DSl) b D h s hs
 have h6:(ownBl (Sl.any:DSl)).count b=0:=rfl
 unfold aZ
 rw [h3] at h2
 omega
theorem Inv.updNode {cx:Cx} {D:DSt} {P P':List (DT×Value)} {tm:Array Value} {w w':World} (I:Inv cx D P tm w) {h c:Nat} {t:DT} (hc:am D h c=some t) (hto:t.isOwn=true)
  {st:List (Nat×Nat)} {f:DT→Option DT} {n n':DT} (hn:getN t st=some n) (hf:f n=some n') (N:NodeOk w w' n n') (ho':n.isOwn=true→n'.isOwn=true)
  {p:Nat→Nat→Bool} {q:Nat→Nat→Bool→Bool} (hp:p h c=true)
  (hq:(∀ st' d z m,i7 n st' d z m→i7 n' st' d z m)∨(q h c true=true∧∀ d z m,i7 n [] d z m→i7 n' [] d z m)∨(∀ b,q h c b=true))
  (hcnt:∀ b,(bl n').count b+aE P' b≤if b<w.heap.size then (bl n).count b+aE P b else 1) (hnew:∀ b,w.heap.size≤b→0<(bl n').count b+aE P' b→b<w'.heap.size)
  (hsize:w.heap.size≤w'.heap.size) (hos:w'.os=w.os) (htape:w'.tape=w.tape) (hout:w'.output=w.output)
  (hpend:∀ p∈P',VT p.1 p.2∧Holds w' p.1∧(p.1.isOwn=true→OwnT w' p.1)∧(p.1.isOwn=false→∀ x∈bl p.1,cx.far x)) :
  ∃ D',cE f (St.dead p q D) h c st=some D'∧Inv cx D' P' tm w':=by
 obtain ⟨s,hs,hsm,hr,hr',hsub⟩:=bD hc
 have hm:=I.mem s hsm
 have hu:∃ t',eg f t st=some t':=by
  clear hr hr' hsub hcnt hm hc hto
  induction st generalizing t with
  | nil=>cases hn;exact ⟨n',hf⟩
  | cons a st ih =>
   obtain ⟨i,c⟩:=a
   cases t with
   | v x=>simp [getN] at hn
   | any=>simp [getN] at hn
   | s k d z rows =>
    simp only [getN,Option.bind_eq_some_iff] at hn
    obtain ⟨u,⟨row,hi,hj⟩,hg⟩:=hn
    obtain ⟨u',hu'⟩:=ih hg
    exact ⟨.s k d z (rows.set i (row.set c u')),by simp [eg,hi,hj,hu']⟩
 obtain ⟨t',hu⟩:=hu
 obtain ⟨N',hc',hown,_⟩:=xr N hf st (hm.1 t hr) (hm.2.1 t hr' hto) (fun b=>I.bl_once hc hto b) hn hu
 have ht':t'.isOwn=true:=by
  cases st with
  | nil =>
   cases hn
   simp only [eg,hf] at hu;cases hu
   exact ho' hto
  | cons a st=>exact (hown (by simp)).1
 have hc2:am (St.dead p q D) h c=some t:=eW hc hto
 obtain ⟨D',hD'⟩:=uY (t':=t') hc2
 refine ⟨D',?_,?_⟩
 ·unfold cE
  rw [hc2]
  simp only [Option.bind_some,hu,hD']
 have I2:=I.dead p q
 have hcntb:∀ b,(bl n).count b≤(bl t).count b:=fW st hn
 have heq:ownR t'=bl t':=by simp [ownR,ht']
 have heq2:ownR t=bl t:=by simp [ownR,hto]
 refine I2.upd hD' ⟨hc2,hto,N'.holds,fun _=>N'.own,.inl ht',N'.val,?_,?_,?_,?_,hsize,?_,hos,htape,hout,hpend⟩
 ·intro b
  have h1:=hcnt b
  have h2:=hc' b
  have h3:=hcntb b
  have h4:=I.once b
  have h5:=kE hc hto b
  rw [heq,heq2]
  by_cases hlt:b<w.heap.size
  ·rw [if_pos hlt] at h1 ⊢;omega
  ·rw [if_neg hlt] at h1 ⊢
   have h6:aZ D b+aE P b=0:=by
    rcases Nat.eq_zero_or_pos (aZ D b+aE P b) with g | g
    ·exact g
    ·exact absurd (I.bnd b g).2 hlt
   omega
 ·intro b hb hpos
  have h2:=hc' b
  have h5:=kE hc hto b
  have h6:aZ D b+aE P b=0:=by
   rcases Nat.eq_zero_or_pos (aZ D b+aE P b) with g | g
   ·exact g
   ·have:=(I.bnd b g).2;omega
  rw [heq] at hpos
  exact hnew b hb (by have:=hcntb b;omega)
 ·intro s hs
  exact (ki (p:=p) (q:=q) hp s hs).1
 ·intro s hs st' hsp
  refine ⟨ht',?_⟩
  have hdq:=(ki (p:=p) (q:=q) (h:=h) (c:=c) hp s hs).2
  rcases hq with hq | ⟨hq1,hq2⟩ | hq
  ·exact vS hf hq st hn hu st'
  ·have e:=hdq.2 hq1 st' hsp
   subst e
   intro d z m hnt
   cases st with
   | nil =>
    cases hn
    simp only [eg,hf] at hu;cases hu
    exact hq2 d z m hnt
   | cons a st=>exact (hown (by simp)).2 d z m hnt
  ·exact absurd hsp (hdq.1 hq st')
 ·intro b hlt hb
  exact N'.same b hlt hb
theorem Inv.storeNode {cx:Cx} {D:DSt} {P:List (DT×Value)} {tm:Array Value} {w:World} (I:Inv cx D P tm w) {h c:Nat} {t:DT} (hc:am D h c=some t) (hto:t.isOwn=true)
  {st:List (Nat×Nat)} {k:Kd} {d:Dec} {z:Nat} {rows:List (List DT)} (hn:getN t st=some (.s k d z rows)) {i off:Nat} {row us:List DT} {ys:List Value} (hi:rows[i]?=some row)
  (G:Got cx D w P us ys) (hfine:∀ u∈us,u.fine=true) (hl:off+us.length≤row.length) (sc:Bool)
  (hsc:sc=true→∀ c,off≤c→c<off+us.length→∀ t,row[c]?=some t→t.flat=true) :
  (∃ cc e lo hi',w.heap[d.b]?=some (.cells cc e (lo,hi'))∧d.o+i*z+off+ys.length≤cc.size∧∀ x,d.o+i*z+off≤x→x<d.o+i*z+off+ys.length→¬ (lo≤x∧x<hi')) ∧
  ∃ D',cE (setRow i off us) (St.dead (co h c) (qSt sc h c) D) h c st=some D'∧Inv cx D' [] tm (w.setCells d.b (d.o+i*z+off) ys):=by
 obtain ⟨hrun,⟨hnil,hblt,hdb⟩,N⟩:=NodeOk.setRow I hc hto hn hi G hfine hl
 refine ⟨hrun,?_⟩
 obtain ⟨cc,e,lo,hi',hh,hsz,hfr⟩:=hrun
 obtain ⟨f1,f2,f3,f4,f5,f6⟩:=gS d.b e (lo,hi') ys (d.o+i*z+off) w cc hh hsz
 have hilt:i<rows.length:=by
  rcases Nat.lt_or_ge i rows.length with g | g
  ·exact g
  ·rw [List.getElem?_eq_none g] at hi;cases hi
 have hk:(T.s k d z rows:DT).isOwn=true:=by
  obtain ⟨s,hs,hsm,hr,hr',hsub⟩:=bD hc
  have:=OwnT.getN st ((I.mem s hsm).2.1 t hr' hto) hn
  cases this<;>rfl
 have hcnt:∀ b,(bl (.s k d z (rows.set i (ao row off us)):DT)).count b≤(bl (.s k d z rows:DT)).count b+aE P b:=by
  intro b
  have h1:=G.cnt b
  have h2:=lr bl row us off b
  have h3:(us.flatMap bl).count b≤(us.flatMap ownR).count b:=by
   have:us.flatMap bl=us.flatMap ownR:=by
    rw [List.flatMap_def,List.flatMap_def,List.map_congr_left fun u hu => ?_]
    rcases pi (hfine u hu) with g | g
    ·simp [ownR,g]
    ·simp [ownR,g]
   rw [this];exact Nat.le_refl _
  have h4:=bj (fun x:List DT=>x.flatMap bl) (ao row off us) b rows i row hi
  rw [bW,bW,List.count_append,List.count_append]
  omega
 refine I.updNode hc hto hn (f:=setRow i off us) ?_ N (fun _=>by cases k<;>first | rfl | cases hk) (by simp [co]) ?_ ?_ ?_ (by omega) f4 f5 f6 (fun p hp=>by cases hp)
 ·simp only [setRow,hi,Option.bind_some]
  rw [if_pos hl]
 ·cases sc with
  | true =>
   left
   exact Ay hi hl (hsc rfl)
  | false =>
   right;left
   refine ⟨by simp [qSt,jL],?_⟩
   rintro d z m ⟨k1,rows1,g1,g2⟩
   cases g1
   exact ⟨_,_,rfl,by simpa using g2⟩
 ·intro b
  have h1:=hcnt b
  rw [bZ]
  split
  ·omega
  ·rename_i hlt
   have h5:=kE hc hto b
   have h6:aZ D b+aE P b=0:=by
    rcases Nat.eq_zero_or_pos (aZ D b+aE P b) with g | g
    ·exact g
    ·exact absurd (I.bnd b g).2 hlt
   have h7:=fW st hn b
   omega
 ·intro b hb hpos
  have h1:=hcnt b
  rw [bZ] at hpos
  have h5:=kE hc hto b
  have h6:aZ D b+aE P b=0:=by
   rcases Nat.eq_zero_or_pos (aZ D b+aE P b) with g | g
   ·exact g
   ·have:=(I.bnd b g).2;omega
  have h7:=fW st hn b
  omega
end Go.Proofs.YtgaiiephdjllkaaGreatDoor.Am
namespace Go.Proofs.YtgaiiephdjllkaaGreatDoor.Am
set_option linter.unusedVariables false
set_option linter.unusedSimpArgs false
open Go
section
variable {δ β : Type}
def fK (D:St δ β) (p:Sl δ β) (us:List (T δ)):Option (St δ β) :=
 match p with
 | .pb h off =>
  match D[h]? with
  | some (.box b ts) =>
   if off+us.length≤ts.length then
    some ((St.dead (atR h off us.length) (qR h off us.length) D).set h (.box b (ao (ts.map (T.dead (atR h off us.length))) off (us.map (T.dead (atR h off us.length))))))
   else none
  | _=>none
 | .pe h c st i off =>
  if us.all T.fine then
   match am D h c with
   | some t =>
    if t.isOwn then
     match getN t st with
     | some (.s _ _ _ rows) =>
      match rows[i]? with
      | some row =>
       if off+us.length≤row.length then
        cE (setRow i off us) (St.dead (co h c) (qSt (((row.drop off).take us.length).all T.flat) h c) D) h c st
       else none
      | none=>none
     | _=>none
    else none
   | none=>none
  else none
 | _=>none
def ms (M:Mk δ β) (tab:Tab) (D:St δ β) (t:Nat) (p x:Operand) (tk:Bool):Option (St δ β) :=
 match tab.ti t,cellsOf M D x tk with
 | some ti,some (_,us,D1) =>
  if us.length=ti.size∧0<us.length then (opd M.nil D1 p).bind fun p=>fK D1 p us else none
 | _,_=>none
end
theorem Inv.cellsOf {cx:Cx} {D:DSt} {a:Act} {w:World} (I:Inv cx D [] a.tmps w) {x:Operand} {tk g:Bool} {ts:List DT} {D':DSt} (e:cellsOf mkD D x tk=some (g,ts,D')) :
  ∃ ys P,Inv cx D' P a.tmps w∧Got cx D' w P ts ys∧bI g (a.eval x) ys:=by
 unfold Am.cellsOf at e
 split at e
 ·exact I.cellsTake e
 ·rw [Option.map_eq_some_iff] at e
  obtain ⟨⟨g',ts'⟩,h,e⟩:=e
  cases e
  obtain ⟨ys,h1,h2⟩:=I.cellsCopy h
  exact ⟨ys,[],I,h1,h2⟩
theorem xZ {P:Program} {tab:Tab} (ok:a8 P tab) {cx:Cx} {D1 D':DSt} {a:Act} {w:World} {Pd:List (DT×Value)} (I1:Inv cx D1 Pd a.tmps w) {t:Nat} {ti:TI} {p:Operand} {yx:Value} {g:Bool} {us:List DT} {ys:List Value}
  (hti:tab.ti t=some ti) (G:Got cx D1 w Pd us ys) (hv:bI g yx ys) (hsz:us.length=ti.size∧0<us.length) {ps:DSl} (hp:Am.opd mkD.nil D1 p=some ps) (e:fK D1 ps us=some D') :
  ∃ w',(Instr.storeAt t (a.eval p) yx).run P w = .ok () w'∧Inv cx D' [] a.tmps w':=by
 have hT:=I1.opd (a:=a) hp
 have hlen:=G.v.1
 have hg:g=false→yx.oneCell'=true:=by
  intro hg
  subst hg
  have:ys=[yx]:=by simpa [bI] using hv
  exact G.v.cells1 _ (by rw [this];simp)
 have hok:=Tab.ok ok hti
 unfold fK at e
 split at e
 ·rename_i h off
  split at e
  case h_2=>cases e
  rename_i b ts hb
  split at e
  case isFalse=>cases e
  rename_i hl
  cases e
  obtain ⟨⟨c,e,lo,hi,h1,h2,h3⟩,I'⟩:=I1.storeBox hb G hl hsz.2
  obtain ⟨b',ts',hb',hy⟩:=hT.val
  rw [hb] at hb';cases hb'
  refine ⟨_,?_,I'⟩
  rw [hy]
  exact uq hok h1 hv hg (by omega) h2 h3 G.v.cells1
 ·rename_i h c st i off
  split at e
  case isFalse=>cases e
  rename_i hfine
  split at e
  case h_2=>cases e
  rename_i t₀ hc0
  split at e
  case isFalse=>cases e
  rename_i hown
  split at e
  case h_2=>cases e
  rename_i k d z rows hn
  split at e
  case h_2=>cases e
  rename_i row hi
  split at e
  case isFalse=>cases e
  rename_i hl
  obtain ⟨⟨cc,e',lo,hi',h1,h2,h3⟩,D2,hD2,I'⟩:=I1.storeNode hc0 hown hn hi G (by simpa using hfine) hl (((row.drop off).take us.length).all T.flat) (fun hs c hc1 hc2 t ht=>by
   rw [List.all_eq_true] at hs
   refine hs t (List.mem_of_getElem? (i:=c-off) ?_)
   rw [List.getElem?_take,if_pos (by omega),List.getElem?_drop,show off+(c-off)=c by omega]
   exact ht)
  rw [hD2] at e;cases e
  obtain ⟨d',z',n',⟨t1,q1,q2,k2,rows2,q3,q4⟩,_,hy⟩:=hT.val
  rw [hc0] at q1;cases q1
  rw [hn] at q3;cases q3
  refine ⟨_,?_,I'⟩
  rw [hy]
  exact uq hok h1 hv hg (by omega) h2 h3 G.v.cells1
 ·cases e
theorem Cu {P:Program} {tab:Tab} (ok:a8 P tab) {cx:Cx} {D D':DSt} {a:Act} {w:World} (I:Inv cx D [] a.tmps w) {t:Nat} {p x:Operand} {tk:Bool}
  (e:ms mkD tab D t p x tk=some D'):∃ w',(Instr.storeAt t (a.eval p) (a.eval x)).run P w = .ok () w'∧Inv cx D' [] a.tmps w':=by
 unfold ms at e
 split at e
 case h_2=>cases e
 rename_i ti g us D1 hti hc
 split at e
 case isFalse=>cases e
 rename_i hsz
 rw [Option.bind_eq_some_iff] at e
 obtain ⟨ps,hp,e⟩:=e
 obtain ⟨ys,Pd,I1,G,hv⟩:=I.cellsOf hc
 exact xZ ok I1 hti G hv hsz hp e
end Go.Proofs.YtgaiiephdjllkaaGreatDoor.Am
namespace Go.Proofs.YtgaiiephdjllkaaGreatDoor.Am
set_option linter.unusedVariables false
set_option linter.unusedSimpArgs false
open Go
structure jw (δ β:Type) where
 box:β
 row:Nat→δ
 app:δ→Nat→Nat→Nat→δ
 str:Nat→Nat→δ
def frD (w:World):jw Dec (Nat×Nat) :=
 ⟨(w.heap.size,0),fun cap=>⟨w.heap.size,0,cap,false,none⟩,fun d n m e=>if n+m≤d.cap then d else ⟨w.heap.size,0,grownCap w (n+m) d.cap e,false,none⟩,fun n e=>⟨w.heap.size,0,grownCap w n 0 e,false,none⟩⟩
def frU:jw Unit Unit:=⟨(),fun _=>(),fun _ _ _ _=>(),fun _ _=>()⟩
section
variable {δ β : Type}
def k7 (M:Mk δ β) (F:jw δ β) (tab:Tab) (D:St δ β) (dst:Option Nat) (t:Nat):Option (St δ β) :=
 match tab.ti t,dst with
 | some ti,some d=>if d<D.length then some (aL D (some d) (.box F.box (ti.zero.map (T.inj M.nil)))) else none
 | _,_=>none
def tC (M:Mk δ β) (F:jw δ β) (D:St δ β) (dst:Option Nat) (x:Operand) (tk:Bool):Option (St δ β) :=
 match cellsOf M D x tk,dst with
 | some (_,us,D1),some d=>if d<D1.length then some (aL D1 (some d) (.box F.box us)) else none
 | _,_=>none
def ld (D:St δ β) (dst:Option Nat) (x:Operand) (i:Nat):Option (St δ β) :=
 match x,dst with
 | .tmp t,some d =>
  match D[t]? with
  | some (.tup rs) =>
   match rs[i]? with
   | some (g,ts) =>
    if d<D.length∧ts.all T.noLent then
     (fm g ts).map fun s=>aL (D.set t (.tup (rs.set i (g,ts.map T.hole)))) (some d) s
    else none
   | none=>none
  | _=>none
 | _,_=>none
def iI (D:St δ β) (x:Operand):Option Nat :=
 match x with
 | .tmp t=>(match D[t]? with | some (.box _ _)=>some t | some (.pb h 0)=>some h | _=>none)
 | _=>none
def kO (D:St δ β):List Operand→Option (List Nat)
 | []=>some []
 | x::xs=>(iI D x).bind fun h=>(kO D xs).map fun hs=>h::hs
def qz (D:St δ β) (f:FuncId) (xs:List Operand):Option (Sl δ β):=(kO D xs).map fun hs => .clo (.fn f) hs
end
variable {P : Program} {tab : Tab}
theorem gE (w:World) (e:TypeId) (cs:Array Value):(newRow e cs).run P w = .ok ⟨w.heap.size,0,none⟩ (w.alloc (.cells cs e)):=by
 simp [newRow]
theorem tT (ok:a8 P tab) {cx:Cx} {D D':DSt} {a:Act} {w:World} (I:Inv cx D [] a.tmps w) {dst:Option Nat} {t:Nat} (e:k7 mkD (frD w) tab D dst t=some D') :
  ∃ y w',(Instr.alloc t true (.tuple #[])).run P w = .ok y w'∧Inv cx D' [] (a.put dst y).tmps w':=by
 unfold k7 at e
 split at e
 case h_2=>cases e
 rename_i ti d hti
 split at e
 case isFalse=>cases e
 rename_i hd
 cases e
 obtain ⟨z,h1,h2,h3⟩:=qn (Tab.ok ok hti) w
 have G:=ik (P:=P) (t:=t) (w:=w) (cx:=cx) (D:=D) (ys:=z.cells.toList) h3
 rw [← h2] at G
 have hI:=I.newBox (a:=a) (e:=t) G hd
 refine ⟨_,_,?_,hI⟩
 simp [Instr.alloc,h1,newVar,gE]
theorem Ez {cx:Cx} {D D':DSt} {a:Act} {w:World} (I:Inv cx D [] a.tmps w) {dst:Option Nat} {t:Nat} {x:Operand} {tk:Bool} (e:tC mkD (frD w) D dst x tk=some D') :
  ∃ y w',(Instr.box t (a.eval x)).run P w = .ok y w'∧Inv cx D' [] (a.put dst y).tmps w':=by
 unfold tC at e
 split at e
 case h_2=>cases e
 rename_i g us D1 d hc
 split at e
 case isFalse=>cases e
 rename_i hd
 cases e
 obtain ⟨ys,Pd,I1,G,hv⟩:=I.cellsOf hc
 have hcells:(a.eval x).cells=ys.toArray:=by
  cases g with
  | true=>simp only [bI,if_true] at hv;rw [hv];rfl
  | false =>
   have:ys=[a.eval x]:=by simpa [bI] using hv
   have h1:=G.v.cells1 _ (by rw [this];simp:a.eval x∈ys)
   rw [this]
   cases hx:a.eval x<;>first | rfl | (rw [hx] at h1;simp [Value.oneCell'] at h1)
 refine ⟨_,_,?_,I1.newBox (e:=t) G hd⟩
 simp [Instr.box,newVar,gE,hcells]
section
variable {δ β : Type}
def bO (M:Mk δ β) (D:St δ β) (pl:List (Nat×Nat)):List (Nat×Operand)→List (T δ)→Option (List (T δ))
 | [],ts=>some ts
 | (i,x)::r,ts =>
  match pl[i]?,cellsCopy M D x with
  | some (off,size),some (_,us)=>if us.length=size∧off+us.length≤ts.length then bO M D pl r (ao ts off us) else none
  | _,_=>none
def l5 (M:Mk δ β) (tab:Tab) (D:St δ β) (t:Nat) (parts:List (Nat×Operand)):Option (Sl δ β) :=
 match tab.ti t,tab.pl t with
 | some ti,some pl=>(bO M D pl parts (ti.zero.map (T.inj M.nil))).map fun ts => .agg ts
 | _,_=>none
end
theorem Got.splice {cx:Cx} {D:DSt} {w:World} {ts us:List DT} {xs ys:List Value} (G:Got cx D w [] ts xs) (H:Got cx D w [] us ys) {off:Nat} (hl:off+us.length≤ts.length) :
  Got cx D w [] (ao ts off us) (ao xs off ys):=by
 refine ⟨G.v.splice H.v hl,fun t ht => ?_,fun t ht => ?_,fun t ht => ?_,fun b => ?_⟩
 ·rcases eC ht with h | h
  ·exact G.holds t h
  ·exact H.holds t h
 ·rcases eC ht with h | h
  ·exact G.own t h
  ·exact H.own t h
 ·rcases eC ht with h | h
  ·exact G.kind t h
  ·exact H.kind t h
 ·have h1:=lr ownR ts us off b
  have h2:=G.cnt b
  have h3:=H.cnt b
  rw [bZ] at *
  omega
theorem nP {cx:Cx} {D:DSt} {a:Act} {w:World} (I:Inv cx D [] a.tmps w) (pl:List (Nat×Nat)):∀ (parts:List (Nat×Operand)) {ts ts':List DT} {xs:List Value},Got cx D w [] ts xs →
  bO mkD D pl parts ts=some ts'→∃ ys,Instr.fill (pl.toArray[·]?) xs.toArray (parts.map fun p=>(p.1,a.eval p.2))=some ys.toArray∧Got cx D w [] ts' ys
 | [],ts,ts',xs,G,e=>by cases e;exact ⟨xs,rfl,G⟩
 | (i,x)::r,ts,ts',xs,G,e=>by
  simp only [bO] at e
  split at e
  case h_2=>cases e
  rename_i off size g us hp hc
  split at e
  case isFalse=>cases e
  rename_i hl
  obtain ⟨ys,H,hv⟩:=I.cellsCopy hc
  have hcells:(a.eval x).cells=ys.toArray:=by
   cases g with
   | true=>simp only [bI,if_true] at hv;rw [hv];rfl
   | false =>
    have:ys=[a.eval x]:=by simpa [bI] using hv
    have h1:=H.v.cells1 _ (by rw [this];simp:a.eval x∈ys)
    rw [this]
    cases hx:a.eval x<;>first | rfl | (rw [hx] at h1;simp [Value.oneCell'] at h1)
  obtain ⟨zs,h1,h2⟩:=nP I pl r (G.splice H hl.2) e
  refine ⟨zs,?_,h2⟩
  have e1:=G.v.1
  have e2:=H.v.1
  have hp':pl.toArray[i]?=some (off,size):=by simpa using hp
  simp only [List.map_cons,Instr.fill,hp',hcells]
  rw [if_neg (by simp;omega)]
  rw [eX ys.toArray off xs.toArray (by simp;omega)]
  simpa using h1
theorem BB {P:Program} {tab:Tab} (ok:a8 P tab) {cx:Cx} {D:DSt} {a:Act} {w:World} (I:Inv cx D [] a.tmps w) {t:Nat} {parts:Array (Nat×Operand)} {s:DSl} (e:l5 mkD tab D t parts.toList=some s) :
  ∃ y,(Instr.build t (parts.map fun (i,x)=>(i,a.eval x))).run P w = .ok y w∧Tells cx D w s y:=by
 unfold l5 at e
 split at e
 case h_2=>cases e
 rename_i ti pl hti hpl
 rw [Option.map_eq_some_iff] at e
 obtain ⟨ts,h1,rfl⟩:=e
 obtain ⟨i,d,z,g1,g2,g3,g4,g5,g6,g7,g8⟩:=ey (Tab.ok ok hti)
 have G:=ik (P:=P) (t:=t) (w:=w) (cx:=cx) (D:=D) (ys:=z.cells.toList) g8
 rw [← g6] at G
 obtain ⟨ys,h2,H⟩:=nP I pl parts.toList G h1
 refine ⟨.agg ys.toArray,run_build w t _ _ ?_,⟨⟨ys.toArray,rfl,by simpa using H.v⟩,⟨H.holds,H.own,trivial⟩,H.kind,?_⟩⟩
 ·have hp:=Tab.okPl ok hpl
  unfold mj at hp
  split at hp
  ·rename_i fs hu
   unfold Program.built
   rw [g1,hu]
   simp only [g3,hp]
   simpa using h2
  ·cases hp
 ·have:∀ b,(ts.flatMap ownR).count b=0:=fun b=>by have:=H.cnt b;rw [bZ] at this;omega
  show ts.flatMap ownR=[]
  rw [List.eq_nil_iff_forall_not_mem]
  intro b hb
  have:=this b
  have:=List.count_pos_iff.2 hb
  omega
theorem Inv.swap {cx:Cx} {D:DSt} {P Q:List (DT×Value)} {tm:Array Value} {w:World} (I:Inv cx D P tm w) {t:Nat} {s₀ s:DSl} (hs₀:D[t]?=some s₀) (hq:∀ s'∈D,¬ b9 t s') (hr:¬ b9 t s)
  (hv:VS D s (tm.getD t undef)) (hm:MemS w s) (hk:dm cx D s)
  (hp:∀ p∈Q,VT p.1 p.2∧Holds w p.1∧(p.1.isOwn=true→OwnT w p.1)∧(p.1.isOwn=false→∀ x∈bl p.1,cx.far x))
  (ho:∀ b,(ownBl s).count b+aE Q b≤(ownBl s₀).count b+aE P b):Inv cx (D.set t s) Q tm w:=by
 have hlt:t<D.length:=by
  rcases Nat.lt_or_ge t D.length with g | g
  ·exact g
  ·rw [List.getElem?_eq_none g] at hs₀;cases hs₀
 have hall:∀ b,aZ (D.set t s) b+aE Q b≤aZ D b+aE P b:=by
  intro b
  have h1:=bj ownBl s b D t s₀ hs₀
  have h2:=ho b
  unfold aZ
  omega
 refine ⟨by have:=I.size;simpa using this,fun u s' hs => ?_,fun s' hs => ?_,fun s' hs => ?_,hp,fun b => ?_,fun b hb => ?_,I.frame⟩
 ·by_cases e:u=t
  ·subst e
   rw [List.getElem?_set_self hlt] at hs
   cases hs
   exact rZ hr hv
  ·rw [List.getElem?_set_ne (fun h=>e h.symm)] at hs
   exact rZ (hq s' (List.mem_of_getElem? hs)) (I.val u s' hs)
 ·rcases List.mem_or_eq_of_mem_set hs with h | rfl
  ·exact I.mem s' h
  ·exact hm
 ·rcases List.mem_or_eq_of_mem_set hs with h | rfl
  ·exact mI (hq s' h) (I.kind s' h)
  ·exact mI hr hk
 ·have h1:=hall b
  have h2:=I.once b
  omega
 ·have h1:=hall b
  exact I.bnd b (by omega)
theorem Inv.tup_refs {cx:Cx} {D:DSt} {P:List (DT×Value)} {tm:Array Value} {w:World} (I:Inv cx D P tm w) {t:Nat} {rs:List (Bool×List DT)} (ha:D[t]?=some (.tup rs)) {s:DSl} {y:Value} (hv:VS D s y) (hk:dm cx D s):¬ b9 t s:=by
 have hc:∀ c,am D t c=none:=fun c=>by simp [am,ha,aI]
 have hroot:∀ (us:List DT),(∀ u∈us,bg cx D u)→¬ ∃ u∈us,∃ c fl d z r,u = .s (.lent t c fl) d z r:=by
  rintro us h ⟨u,hu,c,fl,d,z,r,rfl⟩
  obtain ⟨t',h1,_⟩:=h _ hu
  rw [hc] at h1;cases h1
 intro hr
 cases s with
 | any=>exact hr
 | one u=>obtain ⟨c,fl,d,z,r,rfl⟩:=hr;exact hroot [_] (fun u hu=>hk u (by simpa [ai] using hu)) ⟨_,List.mem_singleton_self _,c,fl,d,z,r,rfl⟩
 | agg ts=>exact hroot ts hk hr
 | box b ts=>exact hroot ts hk hr
 | al h c st lo len =>
  simp only [b9] at hr;subst hr
  obtain ⟨d,z,n,a,⟨t',h1,_⟩,_⟩:=hv
  rw [hc] at h1;cases h1
 | pe h c st i off =>
  simp only [b9] at hr;subst hr
  obtain ⟨d,z,n,⟨t',h1,_⟩,_⟩:=hv
  rw [hc] at h1;cases h1
 | pb h off =>
  simp only [b9] at hr;subst hr
  obtain ⟨b,ts,h1,_⟩:=hv
  rw [ha] at h1;cases h1
 | im k b ts off =>
  cases k with
  | own=>exact hr
  | far=>exact hr
  | lent h c fl =>
   simp only [b9] at hr;subst hr
   obtain ⟨t',h1,_⟩:=hk
   rw [hc] at h1;cases h1
 | fni f caps=>exact hr
 | clo f hs =>
  obtain ⟨bs,h1,h2,_⟩:=hv
  obtain ⟨i,hi⟩:=List.getElem?_of_mem hr
  obtain ⟨b,hb⟩:∃ b,bs[i]?=some b:=by
   have:i<hs.length:=by
    rcases Nat.lt_or_ge i hs.length with g | g
    ·exact g
    ·rw [List.getElem?_eq_none g] at hi;cases hi
   exact ⟨_,List.getElem?_eq_getElem (by omega)⟩
  obtain ⟨ts,h3⟩:=h2 i t b hi hb
  rw [ha] at h3;cases h3
 | tup rs =>
  obtain ⟨p,hp,u,hu,c,fl,d,z,r,e⟩:=hr
  exact hroot (ai (.tup rs)) hk ⟨u,List.mem_flatMap.2 ⟨p,hp,hu⟩,c,fl,d,z,r,e⟩
theorem CM {t:DT} {y:Value} (h:VT t y):VT t.hole y:=by
 cases t with
 | s k d z r=>cases k<;>first | exact h | exact h.one
 | _=>exact h
theorem Gp (t:DT):t.hole.isOwn=false:=by
 cases t with
 | s k d z r=>cases k<;>rfl
 | _=>rfl
theorem Dz (t:DT):t.hole=t∨t.hole = .any:=by
 cases t with
 | s k d z r=>cases k<;>first | (left;rfl) | (right;rfl)
 | _=>left;rfl
theorem nK {cx:Cx} {D D':DSt} {t:DT} (hl:t.noLent=true) (h:bg cx D t):bg cx D' t:=by
 cases t with
 | s k d z r=>cases k<;>first | exact h | cases hl
 | _=>trivial
theorem yf {cx:Cx} {D D':DSt} {a:Act} {w:World} (I:Inv cx D [] a.tmps w) {dst:Option Nat} {x:Operand} {i:Nat} (e:ld D dst x i=some D') :
  ∃ y,(Instr.extract (a.eval x) i).run P w = .ok y w∧Inv cx D' [] (a.put dst y).tmps w:=by
 unfold ld at e
 split at e
 case h_2=>cases e
 rename_i t d
 split at e
 case h_2=>cases e
 rename_i rs hD
 split at e
 case h_2=>cases e
 rename_i g ts hi
 split at e
 case isFalse=>cases e
 rename_i hc
 rw [Option.map_eq_some_iff] at e
 obtain ⟨s,hs,rfl⟩:=e
 obtain ⟨hd,hnl⟩:=hc
 rw [List.all_eq_true] at hnl
 have hmem:=List.mem_of_getElem? hD
 obtain ⟨vs,hy,hlen,hpart⟩:=I.val t _ hD
 have hm:=I.mem _ hmem
 have hk:∀ u∈ai (.tup rs:DSl),bg cx D u:=I.kind _ hmem
 have hlt:i<rs.length:=by
  rcases Nat.lt_or_ge i rs.length with q | q
  ·exact q
  ·rw [List.getElem?_eq_none q] at hi;cases hi
 have hvi:vs.toList[i]?=some vs.toList[i]:=List.getElem?_eq_getElem (by omega)
 have hp:=hpart i _ _ hi hvi
 obtain ⟨ys,hv,hvc⟩:∃ ys,bI g vs.toList[i] ys∧VCells ts ys:=by
  unfold VPart at hp
  cases g with
  | true =>
   simp only [if_true] at hp
   obtain ⟨cs,h1,h2⟩:=hp
   exact ⟨cs.toList,by simpa [bI] using h1,h2⟩
  | false =>
   simp only [Bool.false_eq_true,if_false] at hp
   obtain ⟨t',h1,h2⟩:=hp
   subst h1
   exact ⟨[vs.toList[i]],by simp [bI],.one h2⟩
 have hts:∀ u∈ts,u∈ai (.tup rs:DSl):=fun u hu=>List.mem_flatMap.2 ⟨_,List.mem_of_getElem? hi,hu⟩
 have hget:∀ (j:Nat) (r:Bool×List DT),(rs.set i (g,ts.map T.hole))[j]?=some r→(j=i∧r=(g,ts.map T.hole))∨(j≠i∧rs[j]?=some r):=by
  intro j r hj
  by_cases e:j=i
  ·subst e;rw [List.getElem?_set_self hlt] at hj;cases hj;exact .inl ⟨rfl,rfl⟩
  ·rw [List.getElem?_set_ne (fun h=>e h.symm)] at hj;exact .inr ⟨e,hj⟩
 have hroots:∀ u∈(rs.set i (g,ts.map T.hole)).flatMap (·.2),u∈ai (.tup rs:DSl)∨u = .any:=by
  intro u hu
  obtain ⟨r,hr,hu⟩:=List.mem_flatMap.1 hu
  obtain ⟨j,hj⟩:=List.getElem?_of_mem hr
  rcases hget j r hj with ⟨_,rfl⟩ | ⟨_,hj⟩
  ·obtain ⟨v,hv',rfl⟩:=List.mem_map.1 hu
   rcases Dz v with q | q
   ·rw [q];exact .inl (hts v hv')
   ·exact .inr q
  ·exact .inl (List.mem_flatMap.2 ⟨r,List.mem_of_getElem? hj,hu⟩)
 have hV:VS D (.tup (rs.set i (g,ts.map T.hole))) (a.tmps.getD t undef):=by
  refine ⟨vs,hy,by simpa using hlen,fun j r v hj hv' => ?_⟩
  rcases hget j r hj with ⟨rfl,rfl⟩ | ⟨_,hj⟩
  ·have:=hpart j _ v hi hv'
   unfold VPart at this ⊢
   cases g with
   | true =>
    simp only [if_true] at this ⊢
    obtain ⟨cs,h1,h2,h3⟩:=this
    refine ⟨cs,h1,by simpa using h2,fun k u y hk hy => ?_⟩
    rw [List.getElem?_map,Option.map_eq_some_iff] at hk
    obtain ⟨u',hu',rfl⟩:=hk
    exact CM (h3 k u' y hu' hy)
   | false =>
    simp only [Bool.false_eq_true,if_false] at this ⊢
    obtain ⟨t',h1,h2⟩:=this
    subst h1
    exact ⟨t'.hole,rfl,CM h2⟩
  ·exact hpart j r v hj hv'
 have hK:dm cx D (.tup (rs.set i (g,ts.map T.hole)):DSl):=fun u hu=>by
  rcases hroots u hu with q | q
  ·exact hk u q
  ·subst q;trivial
 have hM:MemS w (.tup (rs.set i (g,ts.map T.hole)):DSl):=by
  refine ⟨fun u hu => ?_,fun u hu ho => ?_,trivial⟩
  ·rcases hroots u hu with q | q
   ·exact hm.1 u q
   ·subst q;exact .any
  ·rcases hroots u hu with q | q
   ·exact hm.2.1 u q ho
   ·subst q;cases ho
 have hzip:∀ p∈ts.zip ys,p.1∈ts∧VT p.1 p.2:=by
  intro p hp
  obtain ⟨j,hj⟩:=List.getElem?_of_mem hp
  rw [List.getElem?_zip_eq_some] at hj
  exact ⟨List.mem_of_getElem? hj.1,hvc.2 j _ _ hj.1 hj.2⟩
 have hcz:=kP ts ys hvc.1
 have I1:=I.swap (Q:=ts.zip ys) hD (fun s' hs'=>by
   obtain ⟨u,hu⟩:=List.getElem?_of_mem hs'
   exact I.tup_refs hD (I.val u s' hu) (I.kind s' hs')) (I.tup_refs hD hV hK) hV
  hM hK
  (fun p hp=>by
   obtain ⟨h1,h2⟩:=hzip p hp
   refine ⟨h2,hm.1 _ (hts _ h1),hm.2.1 _ (hts _ h1),fun ho x hx => ?_⟩
   have hk1:=hk _ (hts _ h1)
   have hn1:=hnl _ h1
   generalize p.1=u at *
   cases u with
   | v x=>simp [bl] at hx
   | any=>simp [bl] at hx
   | s k d z r=>cases k<;>first | exact hk1 x hx | (cases hn1;done) | (cases ho;done))
  (fun b=>by
   have h1:(ts.flatMap ownR).count b+(ownBl (.tup (rs.set i (g,ts.map T.hole)):DSl)).count b=((ts.map T.hole).flatMap ownR).count b+(ownBl (.tup rs:DSl)).count b :=
    bj (fun r:Bool×List DT=>r.2.flatMap ownR) (g,ts.map T.hole) b rs i _ hi
   have h2:((ts.map T.hole).flatMap ownR)=[]:=by
    rw [List.flatMap_eq_nil_iff]
    intro u hu
    obtain ⟨v,_,rfl⟩:=List.mem_map.1 hu
    exact dI (Gp v)
   rw [h2,List.count_nil] at h1
   rw [hcz b,bZ]
   omega)
 have G:Got cx (D.set t (.tup (rs.set i (g,ts.map T.hole)))) w (ts.zip ys) ts ys :=
  ⟨hvc,fun u hu=>hm.1 u (hts u hu),fun u hu=>hm.2.1 u (hts u hu),fun u hu=>nK (hnl u hu) (hk u (hts u hu)),fun b=>by rw [hcz b];exact Nat.le_refl _⟩
 have hfin:=I1.putGot (a:=a) G hv hs (dst:=some d) (fun t' h=>by cases h;simpa using hd) rfl
 refine ⟨vs.toList[i],?_,hfin⟩
 have hev:a.eval (.tmp t) = .tuple vs:=hy
 rw [hev]
 have:vs[i]?=some vs.toList[i]:=by simp
 simp [Instr.extract,this]
section
variable {δ β : Type}
def gZ (M:Mk δ β) (D:St δ β) (z:Nat):List (Nat×Operand)→List (List (T δ))→Option (List (List (T δ)))
 | [],rows=>some rows
 | (i,x)::r,rows =>
  match cellsCopy M D x with
  | some (_,us)=>if us.length=z∧i<rows.length∧us.all T.fine=true then gZ M D z r (rows.set i us) else none
  | none=>none
def dw (M:Mk δ β) (F:jw δ β) (tab:Tab) (D:St δ β) (dst:Option Nat) (t len:Nat) (parts:List (Nat×Operand)):Option (St δ β) :=
 match tab.ti t,dst with
 | some ⟨_,_,_,.slice e⟩,some d =>
  match tab.ti e with
  | some te =>
   if d<D.length∧te.size≠0∧te.zero.length=te.size∧len*te.size≤2 ^ 24 then
    (gZ M D te.size parts (List.replicate len (te.zero.map (T.inj M.nil)))).map fun rows=>aL D (some d) (.one (.s .own (F.row len) te.size rows))
   else none
  | none=>none
 | _,_=>none
def dy (M:Mk δ β) (F:jw δ β) (tab:Tab) (D:St δ β) (dst:Option Nat) (t:Nat) (l c:Operand):Option (St δ β) :=
 match tab.ti t,dst,(opd M.nil D l).bind intOfSl,(opd M.nil D c).bind intOfSl with
 | some ⟨_,_,_,.slice e⟩,some d,some n,some k =>
  match tab.ti e with
  | some te =>
   if d<D.length∧te.size≠0∧te.zero.length=te.size then
    if 0≤n∧n≤k∧(te.bytes:Int)*k≤281474976710656∧k≤4611686018427387904 then
     some (aL D (some d) (.one (.s .own (F.row k.toNat) te.size (List.replicate n.toNat (te.zero.map (T.inj M.nil))))))
    else none
   else none
  | none=>none
 | _,_,_,_=>none
end
structure RowsAre (z:Nat) (rows:List (List DT)) (cs:List Value):Prop where
 len:cs.length=rows.length*z
 row:∀ (i:Nat) (row:List DT),rows[i]?=some row→row.length=z
 val:∀ (i:Nat) (row:List DT) (j:Nat) (t:DT),rows[i]?=some row→row[j]?=some t→∃ y,cs[i*z+j]?=some y∧VT t y
theorem RowsAre.set {z:Nat} {rows:List (List DT)} {cs:List Value} (h:RowsAre z rows cs) {i:Nat} (hi:i<rows.length) {us:List DT} {ys:List Value} (hv:VCells us ys) (hz:us.length=z) :
  i*z+ys.length≤cs.length∧RowsAre z (rows.set i us) (ao cs (i*z) ys):=by
 have hle:(i+1)*z≤rows.length*z:=Nat.mul_le_mul_right _ hi
 rw [Nat.add_mul,Nat.one_mul] at hle
 have e:=hv.1
 have hl:i*z+ys.length≤cs.length:=by rw [h.len];omega
 refine ⟨hl,⟨by rw [ix hl,h.len];simp,fun i' row hr => ?_,fun i' row j t hr hj => ?_⟩⟩
 ·by_cases q:i'=i
  ·subst q;rw [List.getElem?_set_self hi] at hr;cases hr;exact hz
  ·rw [List.getElem?_set_ne (fun g=>q g.symm)] at hr;exact h.row i' row hr
 ·by_cases q:i'=i
  ·subst q
   rw [List.getElem?_set_self hi] at hr;cases hr
   have hlt:j<us.length:=by
    rcases Nat.lt_or_ge j us.length with g | g
    ·exact g
    ·rw [List.getElem?_eq_none g] at hj;cases hj
   refine ⟨ys[j]'(by omega),?_,hv.2 j t _ hj (List.getElem?_eq_getElem (by omega))⟩
   rw [db hl,if_neg (by omega),if_pos (by omega),show i'*z+j-i'*z=j by omega]
   exact List.getElem?_eq_getElem (by omega)
  ·rw [List.getElem?_set_ne (fun g=>q g.symm)] at hr
   obtain ⟨y,h1,h2⟩:=h.val i' row j t hr hj
   refine ⟨y,?_,h2⟩
   have hjz:j<z:=by
    have:=h.row i' row hr
    rcases Nat.lt_or_ge j row.length with g | g
    ·omega
    ·rw [List.getElem?_eq_none g] at hj;cases hj
   rw [iy hl ?_]
   ·exact h1
   ·intro hin
    rcases Nat.lt_trichotomy i' i with g | g | g
    ·have:=lh g hjz;omega
    ·exact q g
    ·have:=lh (j:=ys.length-1) (z:=z) g (by omega);omega
theorem RowsAre.init {zs:List DT} {vs:Array Value} (hv:VCells zs vs.toList) (hz:vs.size≠0) (n:Nat) :
  RowsAre vs.size (List.replicate n zs) ((Array.range (n*vs.size)).map (fun i=>vs[i % vs.size]!)).toList:=by
 have hl:zs.length=vs.size:=by have:=hv.1;simpa using this
 refine ⟨by simp,fun i row hr => ?_,fun i row j t hr hj => ?_⟩
 ·have:=List.mem_of_getElem? hr
  rw [List.eq_of_mem_replicate this];exact hl
 ·have hin:i<n:=by
   rcases Nat.lt_or_ge i n with g | g
   ·exact g
   ·rw [List.getElem?_eq_none (by simpa using g)] at hr;cases hr
  have hrow:row=zs:=List.eq_of_mem_replicate (List.mem_of_getElem? hr)
  subst hrow
  have hjz:j<vs.size:=by
   rcases Nat.lt_or_ge j row.length with g | g
   ·omega
   ·rw [List.getElem?_eq_none g] at hj;cases hj
  have hlt:i*vs.size+j<n*vs.size:=by
   have:(i+1)*vs.size≤n*vs.size:=Nat.mul_le_mul_right _ hin
   rw [Nat.add_mul] at this;omega
  have hmod:(i*vs.size+j) % vs.size=j:=by
   rw [Nat.mul_comm,Nat.mul_add_mod];exact Nat.mod_eq_of_lt hjz
  refine ⟨vs[j],?_,hv.2 j t _ hj (by simp [hjz])⟩
  simp only [Array.toList_map,Array.toList_range,List.getElem?_map,List.getElem?_range hlt,Option.map_some,hmod]
  simp [hjz]
structure ux (w:World) (t:DT):Prop where
 fine:t.fine=true
 holds:Holds w t
 own:t.isOwn=true→OwnT w t
 bl:bl t=[]
theorem Got.bare {cx:Cx} {D:DSt} {w:World} {ts:List DT} {ys:List Value} (G:Got cx D w [] ts ys) (hf:∀ t∈ts,t.fine=true):∀ t∈ts,ux w t:=by
 intro t ht
 refine ⟨hf t ht,G.holds t ht,G.own t ht,?_⟩
 rcases pi (hf t ht) with h | h
 ·rw [List.eq_nil_iff_forall_not_mem]
  intro b hb
  have h1:=G.cnt b
  rw [bZ] at h1
  have h2:0<(ts.flatMap ownR).count b:=List.count_pos_iff.2 (List.mem_flatMap.2 ⟨t,ht,by simp only [ownR,h,if_true];exact hb⟩)
  omega
 ·exact h
theorem jf {cx:Cx} {D:DSt} {w:World} {P:List (DT×Value)} {us:List DT} {ys:List Value} {g:Bool} {y:Value} (H:Got cx D w P us ys) (hv:bI g y ys):y.cells=ys.toArray:=by
 cases g with
 | true=>simp only [bI,if_true] at hv;rw [hv];rfl
 | false =>
  have:ys=[y]:=by simpa [bI] using hv
  have h1:=H.v.cells1 _ (by rw [this];simp:y∈ys)
  rw [this]
  cases y<;>first | rfl | (simp [Value.oneCell'] at h1)
theorem ln {cx:Cx} {D:DSt} {a:Act} {w:World} (I:Inv cx D [] a.tmps w) (z:Nat):∀ (parts:List (Nat×Operand)) {rows rows':List (List DT)} {cs:List Value},RowsAre z rows cs →
  (∀ row∈rows,∀ t∈row,ux w t)→gZ mkD D z parts rows=some rows' →
  ∃ cs',Instr.fill (fun i=>some (i*z,z)) cs.toArray (parts.map fun p=>(p.1,a.eval p.2))=some cs'.toArray∧RowsAre z rows' cs'∧rows'.length=rows.length∧∀ row∈rows',∀ t∈row,ux w t
 | [],rows,rows',cs,R,B,e=>by cases e;exact ⟨cs,rfl,R,rfl,B⟩
 | (i,x)::r,rows,rows',cs,R,B,e=>by
  simp only [gZ] at e
  split at e
  case h_2=>cases e
  rename_i g us hc
  split at e
  case isFalse=>cases e
  rename_i hl
  obtain ⟨ys,H,hv⟩:=I.cellsCopy hc
  have hcells:=jf H hv
  have hf:∀ t∈us,t.fine=true:=by have:=hl.2.2;rwa [List.all_eq_true] at this
  obtain ⟨hle,R'⟩:=R.set hl.2.1 H.v hl.1
  obtain ⟨cs',h1,h2,h3,h4⟩:=ln I z r R' (fun row hr t ht=>by
   rcases List.mem_or_eq_of_mem_set hr with q | q
   ·exact B row q t ht
   ·subst q;exact H.bare hf t ht) e
  refine ⟨cs',?_,h2,by rw [h3];simp,h4⟩
  have e2:=H.v.1
  simp only [List.map_cons,Instr.fill,hcells]
  rw [if_neg (by simp;omega)]
  rw [eX ys.toArray (i*z) cs.toArray (by simpa using hle)]
  simpa using h1
theorem uy (ok:a8 P tab) {cx:Cx} {D D':DSt} {a:Act} {w:World} (I:Inv cx D [] a.tmps w) {dst:Option Nat} {t len:Nat} {parts:Array (Nat×Operand)}
  (e:dw mkD (frD w) tab D dst t len parts.toList=some D'):∃ y w',(Instr.buildSlice t len (parts.map fun (i,x)=>(i,a.eval x))).run P w = .ok y w'∧Inv cx D' [] (a.put dst y).tmps w':=by
 unfold dw at e
 split at e
 case h_2=>cases e
 rename_i sz by_ ze el d hti
 split at e
 case h_2=>cases e
 rename_i te hte
 split at e
 case isFalse=>cases e
 rename_i hc
 rw [Option.map_eq_some_iff] at e
 obtain ⟨rows,h1,rfl⟩:=e
 obtain ⟨hd,hz0,hzl,hmax⟩:=hc
 have hu:=ef (Tab.ok ok hti) rfl
 obtain ⟨z,g1,g2,g3⟩:=qn (Tab.ok ok hte) w
 have hs:=iS (Tab.ok ok hte) w
 have G:=ik (P:=P) (t:=el) (w:=w) (cx:=cx) (D:=D) (ys:=z.cells.toList) g3
 rw [← g2] at G
 have hzs:z.cells.size=te.size:=by rw [← hzl,g2];simp [cR]
 have hfine:∀ t∈te.zero.map (T.inj nilD),t.fine=true:=by
  intro t ht
  rw [g2] at ht
  simp only [List.mem_map,cR,List.mem_mapIdx] at ht
  obtain ⟨u,⟨j,hj,rfl⟩,rfl⟩:=ht
  unfold zT
  split<;>rfl
 have R0:=RowsAre.init G.v (by omega) len
 rw [hzs] at R0
 obtain ⟨cs',f1,R,f3,B⟩:=ln I te.size parts.toList R0 (fun row hr t ht=>by
  have:=List.eq_of_mem_replicate hr
  subst this
  exact G.bare hfine t ht) h1
 have hlen:rows.length=len:=by rw [f3];simp
 have hrun:(Instr.buildSlice t len (parts.map fun (i,x)=>(i,a.eval x))).run P w = .ok (.slice (some ⟨w.heap.size,0,none⟩) len len) (w.alloc (.cells cs'.toArray el)):=by
  have hf2:Instr.fill (fun i=>some (i*te.size,te.size)) ((Array.range (len*te.size)).map fun i=>z.cells[i % te.size]!) (parts.toList.map fun p=>(p.1,a.eval p.2))=some cs'.toArray:=by
   rw [Array.toArray_toList] at f1;exact f1
  simp only [Instr.buildSlice,run_underlying hu,Sem.run_bind,Result.andThen_ok,hs]
  rw [if_neg (by omega)]
  by_cases h0:len*te.size=0
  ·have hl0:len=0:=by
    rcases Nat.mul_eq_zero.1 h0 with h | h
    ·exact h
    ·exact absurd h hz0
   rw [h0] at hf2
   have e0:(Array.range 0).map (fun i=>z.cells[i % te.size]!) = #[]:=by simp
   rw [e0] at hf2
   simp only [h0,if_true,Sem.run_pure,Result.andThen_ok]
   have e1:∀ zz:Array Value,(Array.range 0).map (fun i=>zz[i % zz.size]!) = #[]:=fun zz=>by simp
   simp only [e1]
   simp [hf2,gE]
  ·simp [h0,g1,hzs,hf2,gE]
 have g:=Grew.alloc w (.cells cs'.toArray el)
 have hnew:(w.alloc (.cells cs'.toArray el)).heap[w.heap.size]?=some (.cells cs'.toArray el (0,0)):=by
  show (w.heap.push _)[w.heap.size]?=_
  simp
 have hB:∀ (i:Nat) (row:List DT) (j:Nat) (t:DT),rows[i]?=some row→row[j]?=some t→ux w t:=fun i row j t hi hj=>B row (List.mem_of_getElem? hi) t (List.mem_of_getElem? hj)
 have hH:Holds (w.alloc (.cells cs'.toArray el)) (.s .own ((frD w).row len) te.size rows):=by
  refine .s _ _ _ _ rfl rfl _ el (0,0) hnew (by simp [frD,hlen]) R.row (fun i row j t hi hj => ?_) (fun i row j t hi hj=>(hB i row j t hi hj).holds.frame fun b _ hb=>g.same b hb)
  obtain ⟨y,y1,y2⟩:=R.val i row j t hi hj
  exact ⟨y,by simpa [frD] using y1,y2⟩
 have hO:OwnT (w.alloc (.cells cs'.toArray el)) (.s .own ((frD w).row len) te.size rows):=by
  refine .s _ _ _ rfl rfl _ el 0 0 hnew (by simp [frD,hlen]) (by simp [frD,R.len,hlen]) (fun x _ _ h=>by omega) (fun i row j t hi hj => ?_)
  have:=hB i row j t hi hj
  exact (mJ this.fine this.own).frame fun b _ hb=>g.same b hb
 refine ⟨_,_,hrun,I.newRows (P:=[]) g (by simp) (d:=(frD w).row len) ⟨rfl,rfl⟩ hH hO (fun b => ?_) hd (by simp [VT,Dec.addr,frD,hlen])⟩
 have:rows.flatMap (fun x=>x.flatMap Am.bl)=[]:=by
  rw [List.flatMap_eq_nil_iff]
  intro row hr
  rw [List.flatMap_eq_nil_iff]
  intro t ht
  exact (B row hr t ht).bl
 rw [this];simp
structure Et (w w':World) (t:DT) (v:Value):Prop where
 val:VT t v
 holds:Holds w' t
 own:OwnT w' t
 once:∀ b,(bl t).count b≤1
 new:∀ b∈bl t,w.heap.size≤b∧b<w'.heap.size
theorem wD (ok:a8 P tab) {cx:Cx} {D D':DSt} {a:Act} {w:World} (I:Inv cx D [] a.tmps w) {dst:Option Nat} {t len:Nat} {parts:Array (Nat×Operand)}
  (e:dw mkD (frD w) tab D dst t len parts.toList=some D'):∃ y w' d dc z rows,dst=some d∧D'=aL D (some d) (.one (.s .own dc z rows))∧(Instr.buildSlice t len (parts.map fun (i,x)=>(i,a.eval x))).run P w = .ok y w'∧Grew w w'∧Et w w' (.s .own dc z rows) y:=by
 unfold dw at e
 split at e
 case h_2=>cases e
 rename_i sz by_ ze el d hti
 split at e
 case h_2=>cases e
 rename_i te hte
 split at e
 case isFalse=>cases e
 rename_i hc
 rw [Option.map_eq_some_iff] at e
 obtain ⟨rows,h1,rfl⟩:=e
 obtain ⟨hd,hz0,hzl,hmax⟩:=hc
 have hu:=ef (Tab.ok ok hti) rfl
 obtain ⟨z,g1,g2,g3⟩:=qn (Tab.ok ok hte) w
 have hs:=iS (Tab.ok ok hte) w
 have G:=ik (P:=P) (t:=el) (w:=w) (cx:=cx) (D:=D) (ys:=z.cells.toList) g3
 rw [← g2] at G
 have hzs:z.cells.size=te.size:=by rw [← hzl,g2];simp [cR]
 have hfine:∀ t∈te.zero.map (T.inj nilD),t.fine=true:=by
  intro t ht
  rw [g2] at ht
  simp only [List.mem_map,cR,List.mem_mapIdx] at ht
  obtain ⟨u,⟨j,hj,rfl⟩,rfl⟩:=ht
  unfold zT
  split<;>rfl
 have R0:=RowsAre.init G.v (by omega) len
 rw [hzs] at R0
 obtain ⟨cs',f1,R,f3,B⟩:=ln I te.size parts.toList R0 (fun row hr t ht=>by
  have:=List.eq_of_mem_replicate hr
  subst this
  exact G.bare hfine t ht) h1
 have hlen:rows.length=len:=by rw [f3];simp
 have hrun:(Instr.buildSlice t len (parts.map fun (i,x)=>(i,a.eval x))).run P w = .ok (.slice (some ⟨w.heap.size,0,none⟩) len len) (w.alloc (.cells cs'.toArray el)):=by
  have hf2:Instr.fill (fun i=>some (i*te.size,te.size)) ((Array.range (len*te.size)).map fun i=>z.cells[i % te.size]!) (parts.toList.map fun p=>(p.1,a.eval p.2))=some cs'.toArray:=by
   rw [Array.toArray_toList] at f1;exact f1
  simp only [Instr.buildSlice,run_underlying hu,Sem.run_bind,Result.andThen_ok,hs]
  rw [if_neg (by omega)]
  by_cases h0:len*te.size=0
  ·have hl0:len=0:=by
    rcases Nat.mul_eq_zero.1 h0 with h | h
    ·exact h
    ·exact absurd h hz0
   rw [h0] at hf2
   have e0:(Array.range 0).map (fun i=>z.cells[i % te.size]!) = #[]:=by simp
   rw [e0] at hf2
   simp only [h0,if_true,Sem.run_pure,Result.andThen_ok]
   have e1:∀ zz:Array Value,(Array.range 0).map (fun i=>zz[i % zz.size]!) = #[]:=fun zz=>by simp
   simp only [e1]
   simp [hf2,gE]
  ·simp [h0,g1,hzs,hf2,gE]
 have g:=Grew.alloc w (.cells cs'.toArray el)
 have hnew:(w.alloc (.cells cs'.toArray el)).heap[w.heap.size]?=some (.cells cs'.toArray el (0,0)):=by
  show (w.heap.push _)[w.heap.size]?=_
  simp
 have hB:∀ (i:Nat) (row:List DT) (j:Nat) (t:DT),rows[i]?=some row→row[j]?=some t→ux w t:=fun i row j t hi hj=>B row (List.mem_of_getElem? hi) t (List.mem_of_getElem? hj)
 have hH:Holds (w.alloc (.cells cs'.toArray el)) (.s .own ((frD w).row len) te.size rows):=by
  refine .s _ _ _ _ rfl rfl _ el (0,0) hnew (by simp [frD,hlen]) R.row (fun i row j t hi hj => ?_) (fun i row j t hi hj=>(hB i row j t hi hj).holds.frame fun b _ hb=>g.same b hb)
  obtain ⟨y,y1,y2⟩:=R.val i row j t hi hj
  exact ⟨y,by simpa [frD] using y1,y2⟩
 have hO:OwnT (w.alloc (.cells cs'.toArray el)) (.s .own ((frD w).row len) te.size rows):=by
  refine .s _ _ _ rfl rfl _ el 0 0 hnew (by simp [frD,hlen]) (by simp [frD,R.len,hlen]) (fun x _ _ h=>by omega) (fun i row j t hi hj => ?_)
  have:=hB i row j t hi hj
  exact (mJ this.fine this.own).frame fun b _ hb=>g.same b hb
 have hnil:rows.flatMap (fun x=>x.flatMap Am.bl)=[]:=by
  rw [List.flatMap_eq_nil_iff]
  intro row hr
  rw [List.flatMap_eq_nil_iff]
  intro t ht
  exact (B row hr t ht).bl
 refine ⟨_,_,d,(frD w).row len,te.size,rows,rfl,rfl,hrun,g,⟨by simp [VT,Dec.addr,frD,hlen],hH,hO,?_,fun b hb => ?_⟩⟩
 ·intro b
  rw [bW,hnil]
  simp only [frD,Bool.false_eq_true,if_false,List.append_nil]
  rw [List.count_singleton]
  split<;>omega
 ·rw [bW,hnil] at hb
  simp [frD] at hb
  subst hb
  exact ⟨Nat.le_refl _,by simp⟩
theorem Inv.opInt {cx:Cx} {D:DSt} {a:Act} {w:World} (I:Inv cx D [] a.tmps w) {x:Operand} {n:Int} (h:(Am.opd mkD.nil D x).bind intOfSl=some n):∃ k,a.eval x = .int k n:=by
 rw [Option.bind_eq_some_iff] at h
 obtain ⟨s,h1,h2⟩:=h
 unfold intOfSl at h2
 split at h2
 ·rename_i k n'
  cases h2
  exact ⟨k,(I.opd h1).val.1⟩
 ·cases h2
theorem vR (ok:a8 P tab) {cx:Cx} {D D':DSt} {a:Act} {w:World} (I:Inv cx D [] a.tmps w) {dst:Option Nat} {t:Nat} {l c:Operand}
  (e:dy mkD (frD w) tab D dst t l c=some D'):∃ y w',(Instr.makeSlice t (a.eval l) (a.eval c)).run P w = .ok y w'∧Inv cx D' [] (a.put dst y).tmps w':=by
 unfold dy at e
 split at e
 case h_2=>cases e
 rename_i sz by_ ze el d n k hti hl hc'
 split at e
 case h_2=>cases e
 rename_i te hte
 split at e
 case isFalse=>cases e
 rename_i hc
 split at e
 case isFalse=>cases e
 rename_i hn
 cases e
 obtain ⟨hd,hz0,hzl⟩:=hc
 obtain ⟨n1,n2,n3,n4⟩:=hn
 have hu:=ef (Tab.ok ok hti) rfl
 obtain ⟨i,d',z,g1,g2',g3',g4,g5,g2,g7,g3⟩:=ey (Tab.ok ok hte)
 have G:=ik (P:=P) (t:=el) (w:=w) (cx:=cx) (D:=D) (ys:=z.cells.toList) g3
 rw [← g2] at G
 have hzs:z.cells.size=te.size:=by rw [← hzl,g2];simp [cR]
 have hfine:∀ t∈te.zero.map (T.inj nilD),t.fine=true:=by
  intro t ht
  rw [g2] at ht
  simp only [List.mem_map,cR,List.mem_mapIdx] at ht
  obtain ⟨u,⟨j,hj,rfl⟩,rfl⟩:=ht
  unfold zT
  split<;>rfl
 obtain ⟨kl,el1⟩:=I.opInt hl
 obtain ⟨kc,el2⟩:=I.opInt hc'
 have hrun:=run_make w t el i z hu g1 g3' kl kc n k n1 n2 (by rw [g5];exact n3) (by omega)
 rw [← el1, ← el2] at hrun
 have R:=RowsAre.init G.v (by omega) k.toNat
 have hcs:(madeCells z.cells (k.toNat*i.size))=((Array.range (k.toNat*z.cells.size)).map (fun i=>z.cells[i % z.cells.size]!)):=by
  unfold madeCells;rw [g4,hzs]
 rw [hcs] at hrun
 rw [hzs] at R hrun
 generalize hcells:(Array.range (k.toNat*te.size)).map (fun i=>z.cells[i % te.size]!)=cells at R hrun
 have g:=Grew.alloc w (.cells cells el)
 have hnew:(w.alloc (.cells cells el)).heap[w.heap.size]?=some (.cells cells el (0,0)):=by
  show (w.heap.push _)[w.heap.size]?=_
  simp
 have hkn:n.toNat≤k.toNat:=by omega
 have hrow:∀ (i:Nat) (row:List DT),(List.replicate n.toNat (te.zero.map (T.inj nilD)))[i]?=some row→(List.replicate k.toNat (te.zero.map (T.inj nilD)))[i]?=some row:=by
  intro i row h
  rw [List.getElem?_replicate] at h ⊢
  split at h
  ·rw [if_pos (by omega)];exact h
  ·cases h
 have hB:∀ (i:Nat) (row:List DT) (j:Nat) (t:DT),(List.replicate n.toNat (te.zero.map (T.inj nilD)))[i]?=some row→row[j]?=some t→ux w t:=fun i row j t hi hj=>by
  have:=List.eq_of_mem_replicate (List.mem_of_getElem? hi)
  subst this
  exact G.bare hfine t (List.mem_of_getElem? hj)
 have hsz:cells.size=k.toNat*te.size:=by rw [← hcells];simp
 have hH:Holds (w.alloc (.cells cells el)) (.s .own ((frD w).row k.toNat) te.size (List.replicate n.toNat (te.zero.map (T.inj nilD)))):=by
  refine .s _ _ _ _ rfl rfl _ el (0,0) hnew (by simp [frD];omega) (fun i row h=>R.row i row (hrow i row h)) (fun i row j t hi hj => ?_) (fun i row j t hi hj=>(hB i row j t hi hj).holds.frame fun b _ hb=>g.same b hb)
  obtain ⟨y,y1,y2⟩:=R.val i row j t (hrow i row hi) hj
  exact ⟨y,by simpa [frD] using y1,y2⟩
 have hO:OwnT (w.alloc (.cells cells el)) (.s .own ((frD w).row k.toNat) te.size (List.replicate n.toNat (te.zero.map (T.inj nilD)))):=by
  refine .s _ _ _ rfl rfl _ el 0 0 hnew (by simp [frD];omega) (by simp [frD,hsz]) (fun x _ _ h=>by omega) (fun i row j t hi hj => ?_)
  have:=hB i row j t hi hj
  exact (mJ this.fine this.own).frame fun b _ hb=>g.same b hb
 refine ⟨_,_,hrun,I.newRows (P:=[]) g (by simp) (d:=(frD w).row k.toNat) ⟨rfl,rfl⟩ hH hO (fun b => ?_) hd (by simp [VT,Dec.addr,frD])⟩
 have:(List.replicate n.toNat (te.zero.map (T.inj nilD))).flatMap (fun x=>x.flatMap Am.bl)=[]:=by
  rw [List.flatMap_eq_nil_iff]
  intro row hr
  rw [List.flatMap_eq_nil_iff]
  intro t ht
  obtain ⟨i,hi⟩:=List.getElem?_of_mem hr
  obtain ⟨j,hj⟩:=List.getElem?_of_mem ht
  exact (hB i row j t hi hj).bl
 rw [this];simp
end Go.Proofs.YtgaiiephdjllkaaGreatDoor.Am
namespace Go.Proofs.YtgaiiephdjllkaaGreatDoor.Am
set_option linter.unusedVariables false
set_option linter.unusedSimpArgs false
open Go
theorem Holds.cells {w:World} {k:Kd} {d:Dec} {z:Nat} {rows:List (List DT)} (h:Holds w (.s k d z rows)) (hz0:0<z) :
  ∃ cs:List Value,RowsAre z rows cs∧(∀ u∈cs,u.oneCell'=true)∧(rows=[]∧cs=[]∨d.nil=false∧d.sp=none∧∀ j u,cs[j]?=some u→w.cell? ⟨d.b,d.o+j,none⟩=some u):=by
 cases h with
 | e=>exact ⟨[],⟨by simp,fun i r h=>by simp at h,fun i r j t h=>by simp at h⟩,fun u h=>(by cases h),.inl ⟨rfl,rfl⟩⟩
 | s _ _ _ _ hnil hsp c e f hb hcap hz hv hh =>
  have at_:∀ n,n<rows.length*z→∃ t y,c[d.o+n]?=some y∧VT t y:=by
   intro n hn
   have hi:n/z<rows.length:=Nat.div_lt_of_lt_mul (by rw [Nat.mul_comm];exact hn)
   have hj:n % z<z:=Nat.mod_lt _ hz0
   have hl:=hz (n/z) rows[n/z] (List.getElem?_eq_getElem hi)
   obtain ⟨y,h1,h2⟩:=hv (n/z) rows[n/z] (n % z) (rows[n/z][n % z]'(by omega)) (List.getElem?_eq_getElem hi) (List.getElem?_eq_getElem (by omega))
   have:n/z*z+n % z=n:=by rw [Nat.mul_comm];exact Nat.div_add_mod n z
   rw [Nat.add_assoc,this] at h1
   exact ⟨_,y,h1,h2⟩
  refine ⟨(List.range (rows.length*z)).map fun n=>(c[d.o+n]?).getD undef,⟨by simp,hz,fun i row j t hi hj => ?_⟩,fun u hu => ?_,.inr ⟨hnil,hsp,fun j u hj => ?_⟩⟩
  ·obtain ⟨y,h1,h2⟩:=hv i row j t hi hj
   refine ⟨y,?_,h2⟩
   have hil:i<rows.length:=by
    rcases Nat.lt_or_ge i rows.length with g | g
    ·exact g
    ·rw [List.getElem?_eq_none g] at hi;cases hi
   have hjl:j<z:=by
    have:=hz i row hi
    rcases Nat.lt_or_ge j row.length with g | g
    ·omega
    ·rw [List.getElem?_eq_none g] at hj;cases hj
   have:=lh hil hjl
   rw [List.getElem?_map,List.getElem?_range this,Option.map_some, ← Nat.add_assoc,h1]
   rfl
  ·simp only [List.mem_map,List.mem_range] at hu
   obtain ⟨n,hn,rfl⟩:=hu
   obtain ⟨t,y,h1,h2⟩:=at_ n hn
   rw [h1];exact h2.one
  ·rw [List.getElem?_map,Option.map_eq_some_iff] at hj
   obtain ⟨n,hn,rfl⟩:=hj
   have hlt:j<rows.length*z:=by
    rcases Nat.lt_or_ge j (rows.length*z) with g | g
    ·exact g
    ·rw [List.getElem?_eq_none (by simpa using g)] at hn;cases hn
   rw [List.getElem?_range hlt] at hn
   cases hn
   obtain ⟨t,y,h1,h2⟩:=at_ j hlt
   rw [nI hb,h1];rfl
theorem RowsAre.append {z:Nat} {rows rows':List (List DT)} {cs cs':List Value} (h:RowsAre z rows cs) (g:RowsAre z rows' cs'):RowsAre z (rows++rows') (cs++cs'):=by
 refine ⟨by simp [h.len,g.len,Nat.add_mul],fun i row hi => ?_,fun i row j t hi hj => ?_⟩
 ·rcases Nat.lt_or_ge i rows.length with q | q
  ·rw [List.getElem?_append_left q] at hi;exact h.row i row hi
  ·rw [List.getElem?_append_right q] at hi;exact g.row _ row hi
 ·rcases Nat.lt_or_ge i rows.length with q | q
  ·rw [List.getElem?_append_left q] at hi
   obtain ⟨y,h1,h2⟩:=h.val i row j t hi hj
   refine ⟨y,?_,h2⟩
   rw [List.getElem?_append_left]
   ·exact h1
   ·rcases Nat.lt_or_ge (i*z+j) cs.length with p | p
    ·exact p
    ·rw [List.getElem?_eq_none p] at h1;cases h1
  ·rw [List.getElem?_append_right q] at hi
   obtain ⟨y,h1,h2⟩:=g.val _ row j t hi hj
   refine ⟨y,?_,h2⟩
   have e1:(i-rows.length)*z=i*z-rows.length*z:=Nat.sub_mul _ _ _
   have e2:rows.length*z≤i*z:=Nat.mul_le_mul_right _ q
   rw [List.getElem?_append_right (by rw [h.len];omega),h.len]
   rw [show i*z+j-rows.length*z=(i-rows.length)*z+j by omega]
   exact h1
structure yU (B:Nat) (w w':World):Prop where
 os:w'.os=w.os
 tape:w'.tape=w.tape
 output:w'.output=w.output
 size:w.heap.size≤w'.heap.size
 same:∀ b,b≠B→b<w.heap.size→w'.heap[b]?=w.heap[b]?
structure Hq (B:Nat) (s:DSl):Prop where
 roots:∀ v∈ai s,B∉bl v
 rootsO:∀ v∈Am.rootsO s,B∉bl v
 head:match s with | .box b _=>b.1≠B | .im _ b _ _=>b.1≠B | .fni _ caps=>∀ p∈caps,p.1.1≠B | _=>True
theorem Lies.grewX {B:Nat} {w w':World} (g:yU B w w') {b:Nat×Nat} (hb:b.1≠B) {ts:List DT} (h:Lies w b ts):Lies w' b ts:=by
 obtain ⟨c,e,f,h1,hv⟩:=h
 exact ⟨c,e,f,by rw [g.same _ hb (cO h1)];exact h1,hv⟩
theorem MemS.grewX {B:Nat} {w w':World} (g:yU B w w') {s:DSl} (ho:Hq B s) (h:MemS w s):MemS w' s:=by
 obtain ⟨h1,h2,h3⟩:=h
 refine ⟨fun t ht=>(h1 t ht).frame fun b hb hl=>g.same b (fun e=>ho.roots t ht (e ▸ hb)) hl,fun t ht hw=>(h2 t ht hw).frame fun b hb hl=>g.same b (fun e=>ho.rootsO t ht (e ▸ hb)) hl,?_⟩
 cases s with
 | box b ts =>
  refine ⟨h3.1.grewX g ho.head,fun c e lo hi hb => ?_⟩
  rw [g.same _ ho.head h3.1.lt] at hb
  exact h3.2 c e lo hi hb
 | im k b ts off=>exact Lies.grewX g ho.head h3
 | fni f caps=>exact fun p hp=>(h3 p hp).grewX g (ho.head p hp)
 | _=>trivial
theorem Inv.pend_out {cx:Cx} {D:DSt} {P:List (DT×Value)} {tm:Array Value} {w:World} (I:Inv cx D P tm w) {B:Nat} (hB:0<aE P B):cx.may B∧B<w.heap.size∧∀ s∈D,Hq B s:=by
 have hmay:=I.bnd B (by omega)
 refine ⟨hmay.1,hmay.2,fun s hs => ?_⟩
 have hno:∀ s'∈D,B∉ownBl s':=by
  intro s' hs' hb
  have h1:=bU hs' hb
  have h2:=I.once B
  omega
 have kt:∀ v:DT,bg cx D v→(v.isOwn=true→B∉bl v)→B∉bl v:=by
  intro v hk ho hb
  cases v with
  | v x=>simp [bl] at hb
  | any=>simp [bl] at hb
  | s k d z r =>
   cases k with
   | own=>exact ho rfl hb
   | far=>exact Cx.far_not (hk B hb) hmay.1
   | lent h c fl =>
    obtain ⟨t',h1,h2,h3,h3r⟩:=hk
    obtain ⟨s',g1,g2,g3,g3',g4⟩:=bD h1
    exact hno s' g2 (g4 h2 B (h3 B hb))
 have hk:=I.kind s hs
 have hn:=hno s hs
 cases s with
 | any=>exact ⟨fun v hv=>by simp [ai] at hv,fun v hv=>by simp [Am.rootsO] at hv,trivial⟩
 | one t =>
  have h1:B∉bl t:=kt t (hk t (by simp [ai])) (fun ho hb=>hn (by simp [ownBl,ownR,ho,hb]))
  exact ⟨fun v hv=>by simp [ai] at hv;subst hv;exact h1,fun v hv=>by simp [Am.rootsO] at hv;subst hv;exact h1,trivial⟩
 | agg ts =>
  have h1:∀ t∈ts,B∉bl t:=fun t ht=>kt t (hk t ht) (fun ho hb=>hn (by simp only [ownBl,List.mem_flatMap];exact ⟨t,ht,by simp [ownR,ho,hb]⟩))
  exact ⟨h1,h1,trivial⟩
 | box b ts =>
  have h1:∀ t∈ts,B∉bl t:=fun t ht=>kt t (hk t ht) (fun ho hb=>hn (by simp only [ownBl,List.mem_cons,List.mem_flatMap];exact .inr ⟨t,ht,by simp [ownR,ho,hb]⟩))
  exact ⟨h1,h1,fun e=>hn (by simp [ownBl,e])⟩
 | tup rs =>
  have h1:∀ t∈rs.flatMap (·.2),B∉bl t:=fun t ht=>kt t (hk t ht) (fun ho hb=>hn (by
   simp only [List.mem_flatMap] at ht
   obtain ⟨p,hp,ht⟩:=ht
   simp only [ownBl,List.mem_flatMap]
   exact ⟨p,hp,t,ht,by simp [ownR,ho,hb]⟩))
  exact ⟨h1,h1,trivial⟩
 | al h c st lo len=>exact ⟨fun v hv=>by simp [ai] at hv,fun v hv=>by simp [Am.rootsO] at hv,trivial⟩
 | pb h off=>exact ⟨fun v hv=>by simp [ai] at hv,fun v hv=>by simp [Am.rootsO] at hv,trivial⟩
 | pe h c st i off=>exact ⟨fun v hv=>by simp [ai] at hv,fun v hv=>by simp [Am.rootsO] at hv,trivial⟩
 | clo f hs'=>exact ⟨fun v hv=>by simp [ai] at hv,fun v hv=>by simp [Am.rootsO] at hv,trivial⟩
 | im k b ts off =>
  have hk':lj cx D k b.1 ts:=hk
  cases k with
  | own=>exact hk'.elim
  | far=>exact ⟨fun v hv hb=>Cx.far_not (hk'.2 v hv B hb) hmay.1,fun v hv=>by simp [Am.rootsO] at hv,fun e=>Cx.far_not (e ▸ hk'.1) hmay.1⟩
  | lent h c fl =>
   obtain ⟨t',h1,h2,h3,h4⟩:=hk'
   obtain ⟨s',g1,g2,g3,g3',g4⟩:=bD h1
   exact ⟨fun v hv hb=>hno s' g2 (g4 h2 B (h4 v hv B hb)),fun v hv=>by simp [Am.rootsO] at hv,fun e=>hno s' g2 (g4 h2 B (e ▸ h3))⟩
 | fni f caps =>
  refine ⟨fun v hv hb => ?_,fun v hv=>by simp [Am.rootsO] at hv,fun p hp e=>Cx.far_not (e ▸ (hk p hp).1) hmay.1⟩
  simp only [ai,List.mem_flatMap] at hv
  obtain ⟨p,hp,hv⟩:=hv
  exact Cx.far_not ((hk p hp).2 v hv B hb) hmay.1
theorem Inv.pendWrite {cx:Cx} {D:DSt} {P:List (DT×Value)} {tm:Array Value} {w w':World} (I:Inv cx D P tm w) {B:Nat} (hB:0<aE P B) (g:yU B w w') {t:DT} {y:Value}
  (hv:VT t y) (hh:Holds w' t) (ho:OwnT w' t) (hown:t.isOwn=true) (hc:∀ b,(bl t).count b≤aE P b):Inv cx D [(t,y)] tm w':=by
 obtain ⟨hmay,hlt,hout⟩:=I.pend_out hB
 have hcn:∀ b,aE [(t,y)] b≤aE P b:=fun b=>by
  simp only [aE,List.flatMap_cons,List.flatMap_nil,List.append_nil,ownR,hown,if_true]
  exact hc b
 refine ⟨I.size,I.val,fun s hs=>(I.mem s hs).grewX g (hout s hs),I.kind,fun p hp => ?_,fun b => ?_,fun b hb => ?_,?_⟩
 ·rw [List.mem_singleton] at hp;subst hp
  exact ⟨hv,hh,fun _=>ho,fun h=>by rw [hown] at h;cases h⟩
 ·have:=I.once b;have:=hcn b;omega
 ·have:=hcn b
  have:=I.bnd b (by omega)
  exact ⟨this.1,Nat.lt_of_lt_of_le this.2 g.size⟩
 ·have f:=I.frame
  exact ⟨g.os.trans f.os,g.tape.trans f.tape,g.output.trans f.output,Nat.le_trans f.size g.size,fun b hb=>by
   rw [g.same b (fun e=>Cx.far_not (e ▸ hb) hmay) (Nat.lt_of_lt_of_le hb.1 f.size)];exact f.same b hb⟩
end Go.Proofs.YtgaiiephdjllkaaGreatDoor.Am
