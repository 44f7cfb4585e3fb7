/- An abstract machine over trees, and that its steps are sound, a part. Conditions: none. -/
import Derived.Calls
import Derived.Tactics
import Derived.Laws.StructEq
import Derived.Laws.Small
import Derived.Laws.Slices
import Derived.Laws.Strings
import Derived.Laws.Pointers
import Derived.Laws.Build
import Derived.Laws.Cells
import Derived.Laws.IdiomCopy
import Derived.Deep.Slices
import Derived.Deep.OwnRows
import Derived.Laws.MakeOwn
import Derived.Laws.Tables
import Derived.Deep.AppendSrc
namespace Go.Proofs.Yticaelmbkfeeaaa.Am
open Go
set_option linter.unusedVariables false
set_option linter.unusedSimpArgs false
abbrev BQ:=@Option.map_some
abbrev BR:=@List.mem_of_getElem?
abbrev BS:=@Option.map_eq_some_iff
abbrev BT:=@Option.bind_eq_some_iff
abbrev BU:=@Option.bind_some
abbrev BV:=@List.getElem?_eq_none
abbrev BW:=@List.getElem?_eq_getElem
abbrev BX:=@List.getElem?_of_mem
abbrev BY:=@Nat.lt_or_ge
abbrev BZ:=@if_pos
abbrev B1:=@List.getElem?_set_self
abbrev B2:=@List.all_eq_true
abbrev B3:=@List.getElem?_set_ne
abbrev B4:=@List.mem_singleton
abbrev B5:=@List.mem_flatMap
abbrev B6:=@List.getElem?_map
abbrev B7:=@List.mem_map
abbrev B8:=@List.count_pos_iff
abbrev B9:=@List.flatMap_cons
abbrev Ca:=@List.flatMap_eq_nil_iff
abbrev Cb:=@List.take_length
abbrev Cc:=@List.map_cons
abbrev Cd:=@if_neg
abbrev Ce:=@List.count_append
abbrev Cf:=@Bool.and_eq_true
abbrev Cg:=@List.drop_zero
abbrev Ch:=@Bool.false_eq_true
abbrev Ci:=@List.length_map
abbrev Cj:=@List.mem_singleton_self
abbrev Ck:=@Option.some.injEq
abbrev Cl:=@List.map_congr_left
abbrev Cm:=@List.mem_append
abbrev Cn:=@Classical.byContradiction
abbrev Co:=@List.nil_append
abbrev Cp:=@List.append_nil
abbrev Cq:=@List.mem_cons
abbrev Cr:=@Nat.lt_of_lt_of_le
abbrev Cs:=@Array.getElem?_eq_getElem
abbrev Ct:=@List.map_map
abbrev Cu:=@List.map_nil
abbrev Cv:=@Array.getD_eq_getD_getElem?
abbrev Cw:=@List.foldl_cons
abbrev Cy:=@List.getElem?_append_right
abbrev Cz:=@Nat.le_refl
abbrev CA:=@List.getElem?_append_left
abbrev CB:=@List.mem_range
abbrev CD:=@if_false
abbrev CE:=@Nat.eq_zero_or_pos
abbrev CF:=@Bool.false_ne_true
abbrev CG:=@List.getElem?_drop
abbrev CH:=@Nat.le_trans
abbrev CI:=@if_true
abbrev CJ:=@List.contains_iff_mem
abbrev CK:=@List.mem_or_eq_of_mem_set
abbrev CL:=@Option.map_map
abbrev CM:=@Array.getElem?_eq_none
abbrev CN:=@List.eq_of_mem_replicate
abbrev CO:=@List.getElem?_cons_zero
abbrev CP:=@List.ext_getElem?
abbrev CQ:=@List.all_map
abbrev CR:=@List.getElem?_take
abbrev CS:=@List.mem_mapIdx
abbrev CT:=@List.mem_of_mem_drop
abbrev CU:=@List.count_cons
abbrev CV:=@Nat.mul_le_mul_right
abbrev CW:=@List.eq_nil_iff_forall_not_mem
abbrev CX:=@List.cons.injEq
abbrev CY:=@List.mem_filter
abbrev CZ:=@List.flatMap_append
abbrev C0:=@List.getElem?_range
abbrev C1:=@List.length_eq_zero_iff
abbrev C2:=@Nat.add_assoc
abbrev C3:=@Array.toList_inj
abbrev C4:=@List.any_eq_true
abbrev C5:=@List.mem_filterMap
abbrev C6:=@List.mem_of_mem_take
abbrev C7:=@List.getElem?_cons_succ
abbrev C8:=@decide_eq_true_eq
abbrev C9:=@List.mem_map_of_mem
abbrev Da:=@Nat.add_mul
abbrev Db:=@Nat.zero_add
abbrev Dd:=@List.map_drop
abbrev De:=@List.flatMap_map
abbrev Df:=@List.flatMap_nil
abbrev Dg:=@List.getElem?_mapIdx
abbrev Dh:=@List.map_append
abbrev Di:=@List.idxOf_lt_length_iff
abbrev Dj:=@List.map_take
abbrev Dk:=@List.length_cons
abbrev Dl:=@List.map_id
abbrev Dm:=@List.length_set
abbrev Dn:=@Nat.lt_irrefl
abbrev Do:=@List.perm_ext_iff_of_nodup
abbrev Dp:=@List.any_eq_false
abbrev Dq:=@List.mem_cons_of_mem
abbrev Dr:=@List.getElem?_zip_eq_some
abbrev Ds:=@congrArg
abbrev Dt:=@List.getElem_mem
abbrev Du:=@and_true
abbrev Dv:=@List.map_set
abbrev Dw:=@Option.isSome_iff_exists
abbrev Dx:=@List.filter_cons
abbrev Dy:=@Bool.or_eq_true
abbrev Dz:=@of_decide_eq_true
abbrev DA:=@List.getElem?_toArray
abbrev DB:=@Array.getElem?_append_left
abbrev DC:=@Prod.mk.injEq
abbrev DD:=@List.drop_eq_getElem_cons
abbrev DE:=@decide_eq_false
abbrev DF:=@decide_eq_true
abbrev DG:=@List.drop_sublist
abbrev DH:=@List.map_inj_left
abbrev DI:=@Nat.zero_le
abbrev DJ:=@Option.getD_some
abbrev DK:=@Array.all_eq_true_iff_forall_mem
abbrev DL:=@List.flatMap_def
abbrev DM:=@List.nodup_range
abbrev DN:=@Array.getElem?_modify
abbrev DO:=@List.length_singleton
abbrev DQ:=@Array.getElem?_setIfInBounds_ne
abbrev DR:=@Nat.add_comm
abbrev DS:=@beq_iff_eq
abbrev DU:=@List.any_map
abbrev DV:=@List.filter_map
abbrev DW:=@getElem!_pos
abbrev DX:=@List.filterMap_cons
abbrev DY:=@List.drop_drop
abbrev DZ:=@List.count_nil
abbrev D5:=@Array.getElem_setIfInBounds
abbrev D6:=@List.getElem_idxOf
abbrev D7:=@Array.toList_setIfInBounds
abbrev D8:=@Array.getElem?_eq_some_iff
abbrev D9:=@List.size_toArray
abbrev Ea:=@Option.isNone_iff_eq_none
abbrev Eb:=@cond_false
abbrev Ec:=@List.length_erase_of_mem
abbrev Ed:=@decide_eq_false_iff_not
abbrev Ee:=@List.getElem?_replicate
abbrev Ef:=@List.length_nil
abbrev Eg:=@Option.map_none
abbrev Eh:=@List.nodup_cons
abbrev Ei:=@true_and
abbrev Ej:=ByteArray
inductive Kd where|own|far|lent (h c:Nat) (root:Bool) deriving DecidableEq
def Kd.unr:Kd→Kd| .lent h c _=>.lent h c false|k=>k
inductive T (δ:Type) where|v (x:Value)|any|s (k:Kd) (d:δ) (sz:Nat) (rows:List (List (T δ)))
inductive zl where|fn (f:FuncId)|arr (offs:List Nat)
inductive Sl (δ β:Type) where|any|one (t:T δ)|agg (ts:List (T δ))|box (b:β) (ts:List (T δ))|al (h c:Nat) (st:List (Nat×Nat)) (lo len:Nat)|pb (h off:Nat)|pe (h c:Nat) (st:List (Nat×Nat)) (i off:Nat)|im (k:Kd) (b:β) (ts:List (T δ)) (off:Nat)|fni (f:FuncId) (caps:List (β×List (T δ)))|clo (f:zl) (hs:List Nat)|tup (rs:List (Bool×List (T δ)))
abbrev St (δ β:Type):=List (Sl δ β)
section
variable  {δ β : Type}
def T.kd (k:Kd):T δ→T δ| .s .own d z r=>.s k d z r|t=>t
def T.view (k:Kd):T δ→T δ| .s _ d z r=>.s k d z r|t=>t
def T.isOwn:T δ→Bool| .s .own _ _ _=>true|_=>false
def T.fine:T δ→Bool| .s .own _ _ _=>true| .s _ _ _ _=>false|_=>true
def T.hole:T δ→T δ| .s .own _ _ _=>.any|t=>t
def T.dead (p:Nat→Nat→Bool):T δ→T δ| .s (.lent h c a) d z r=>if p h c then .any else .s (.lent h c a) d z r|t=>t
def Sl.dead (p:Nat→Nat→Bool)(q:Nat→Nat→Bool→Bool):Sl δ β→Sl δ β
 | .one t=>.one (t.dead p)
 | .agg ts=>.agg (ts.map (T.dead p))
 | .box b ts=>.box b (ts.map (T.dead p))
 | .al h c st lo len=>if q h c (!st.isEmpty)then .any else .al h c st lo len
 | .pe h c st i off=>if q h c (!st.isEmpty)then .any else .pe h c st i off
 | .im k b ts off=>match k with| .lent h c _=>(if p h c then .any else .im k b ts off)|_=>.im k b ts off
 | .tup rs=>.tup (rs.map fun r=>(r.1,r.2.map (T.dead p)))
 |x=>x
def Sl.gone (t:Nat):Sl δ β→Sl δ β| .pb h off=>if h=t then .any else .pb h off| .clo f hs=>if hs.contains t then .any else .clo f hs|x=>x
def St.dead (p:Nat→Nat→Bool)(q:Nat→Nat→Bool→Bool)(D:St δ β):St δ β:=D.map (Sl.dead p q)
def atH (t:Nat):Nat→Nat→Bool:=fun h _=>h==t
def br (t u:Nat):Nat→Nat→Bool:=fun h c=>h==t&&c==u
def qH (t:Nat):Nat→Nat→Bool→Bool:=fun h _ _=>h==t
def qHC (t u:Nat):Nat→Nat→Bool→Bool:=fun h c _=>h==t&&c==u
def gK (t u:Nat):Nat→Nat→Bool→Bool:=fun h c a=>h==t&&c==u&&a
def qNo:Nat→Nat→Bool→Bool:=fun _ _ _=>false
def au (t:Nat)(D:St δ β):St δ β:=((D.dead (atH t) (qH t)).map (Sl.gone t)).set t .any
def Sl.isHome:Sl δ β→Bool| .one t=>t.isOwn| .agg ts=>ts.any T.isOwn| .box _ _=>true| .tup rs=>rs.any fun r=>r.2.any T.isOwn|_=>false
def Sl.clean (t:Nat)(x:Sl δ β):Sl δ β:=(x.dead (atH t) (qH t)).gone t
def av (D:St δ β)(dst:Option Nat)(x:Sl δ β):St δ β :=
 match dst with
 |none=>D
 |some t=>(au t D).set t (x.clean t)
def ap:Sl δ β→Option (List (T δ))| .one t=>some [t]| .agg ts=>some ts| .box _ ts=>some ts|_=>none
def setCells (cs:List (T δ)):Sl δ β→Sl δ β| .one _=>.one (cs.headD .any)| .agg _=>.agg cs| .box b _=>.box b cs|x=>x
def ah (D:St δ β)(h c:Nat):Option (T δ):=(D[h]?.bind ap).bind (·[c]?)
def cT (D:St δ β)(h c:Nat)(t:T δ):Option (St δ β):=
 match D[h]? with
 |some x=>(ap x).map fun cs=>D.set h (setCells (cs.set c t) x)
 |none=>none
def getN:T δ→List (Nat×Nat)→Option (T δ)
 |t,[]=>some t
 | .s _ _ _ rows,(i,c)::st=>(rows[i]?.bind (·[c]?)).bind (getN · st)
 |_,_=>none
def cM (f:T δ→Option (T δ)):T δ→List (Nat×Nat)→Option (T δ)|t,[]=>f t| .s k d z rows,(i,c)::st =>(rows[i]?).bind fun row=>(row[c]?).bind fun u=>(cM f u st).map fun u'=>.s k d z (rows.set i (row.set c u'))|_,_=>none
def bg (D:St δ β)(h c:Nat)(st:List (Nat×Nat)):Option (T δ):=(ah D h c).bind (getN · st)
def bD (f:T δ→Option (T δ))(D:St δ β)(h c:Nat)(st:List (Nat×Nat)):Option (St δ β):=(ah D h c).bind fun t=>(cM f t st).bind fun t'=>cT D h c t'
end
structure Dec where
 b:Nat
 o:Nat
 cap:Nat
 nil:Bool
 sp:Option Addr:=none
def Dec.addr (d:Dec):Option Addr :=
 match d.sp with
 |some a=>some a
 |none=>if d.nil then none else some ⟨d.b,d.o,none⟩
theorem Dec.addr_none {d:Dec}(h:d.sp=none):d.addr=if d.nil then none else some ⟨d.b,d.o,none⟩:=by unfold Dec.addr;rw[h]
abbrev DT:=T Dec
abbrev DSl:=Sl Dec (Nat×Nat)
abbrev DSt:=List DSl
def VT:DT→Value→Prop| .v x,y=>y=x∧y.oneCell'=true| .any,y=>y.oneCell'=true| .s _ d _ rows,y=>y = .slice d.addr rows.length d.cap
theorem VT.one {t:DT}{y:Value}(h:VT t y):y.oneCell'=true:=by
 cases t with
 |v x=>exact h.2
 |any=>exact h
 |s k d z r=>rw[show y=_ from h];rfl
mutual
def bl:DT→List Nat| .v _=>[]| .any=>[]| .s _ d _ rows=>(if d.nil then []else [d.b])++m6 rows
def pA:List DT→List Nat|[]=>[]|t::r=>bl t++pA r
def m6:List (List DT)→List Nat|[]=>[]|r::rs=>pA r++m6 rs
end
theorem xU (r:List DT):pA r=r.flatMap bl:=by
 induction r with
 |nil=>simp[pA]
 |cons a r b=>simp[pA,b]
theorem wJ (r:List (List DT)):m6 r=r.flatMap fun x=>x.flatMap bl:=by
 induction r with
 |nil=>simp[m6]
 |cons a r b=>simp[m6,b,xU]
theorem bv (k:Kd)(d:Dec)(z:Nat)(rows:List (List DT)):
  bl (.s k d z rows)=(if d.nil then []else [d.b])++rows.flatMap fun x=>x.flatMap bl:=by
 rw[bl,wJ]
inductive Holds (w:World):DT→Prop where|v (x:Value):Holds w (.v x)|any:Holds w .any|e (k:Kd) (d:Dec) (z:Nat):Holds w (.s k d z [])|s (k:Kd) (d:Dec) (z:Nat) (rows:List (List DT)) (h:d.nil=false) (hsp:d.sp=none) (c:Array Value) (e:TypeId) (f:Nat×Nat) (hb:w.heap[d.b]?=some (.cells c e f)) (hcap:rows.length≤d.cap) (hz:∀(i:Nat)(row:List DT),rows[i]?=some row→row.length=z) (hv:∀(i:Nat)(row:List DT)(j:Nat)(t:DT),rows[i]?=some row→row[j]?=some t→∃y,c[d.o+i*z+j]?=some y∧VT t y) (hh:∀(i:Nat)(row:List DT)(j:Nat)(t:DT),rows[i]?=some row→row[j]?=some t→Holds w t):Holds w (.s k d z rows)
inductive OwnT (w:World):DT→Prop where|v (x:Value):OwnT w (.v x)|any:OwnT w .any|nil (d:Dec) (z:Nat) (h:d.nil=true) (hsp:d.sp=none) (hc:d.cap=0):OwnT w (.s .own d z [])|s (d:Dec) (z:Nat) (rows:List (List DT)) (h:d.nil=false) (hsp:d.sp=none) (c:Array Value) (e:TypeId) (lo hi:Nat) (hb:w.heap[d.b]?=some (.cells c e (lo,hi))) (hcap:rows.length≤d.cap) (hroom:d.o+d.cap*z≤c.size) (hf:∀x,d.o≤x→x<d.o+d.cap*z→¬(lo≤x∧x<hi)) (hh:∀(i:Nat)(row:List DT)(j:Nat)(t:DT),rows[i]?=some row→row[j]?=some t→OwnT w t):OwnT w (.s .own d z rows)
theorem OwnT.sp {w:World}{k:Kd}{d:Dec}{z:Nat}{rows:List (List DT)}(h:OwnT w (.s k d z rows)):d.sp=none:=by
 cases h with
 |nil _ _ _ hsp _=>exact hsp
 |s _ _ _ _ hsp=>exact hsp
theorem Holds.sp {w:World}{k:Kd}{d:Dec}{z:Nat}{rows:List (List DT)}(h:Holds w (.s k d z rows))(a:rows≠[]):d.sp=none:=by
 cases h with
 |e=>exact absurd rfl a
 |s _ _ _ _ _ hsp=>exact hsp
theorem en {k:Kd}{d:Dec}{z:Nat}{rows:List (List DT)}(h:d.nil=false):d.b∈bl (.s k d z rows):=by rw[bv,h];simp
theorem ea {k:Kd}{d:Dec}{z:Nat}{rows:List (List DT)}{i j:Nat}{row:List DT}{t:DT}(hi:rows[i]?=some row)(hj:row[j]?=some t){b:Nat}(hb:b∈bl t):
  b∈bl (.s k d z rows):=by
 rw[bv];simp only[Cm,B5];exact .inr ⟨row,BR hi,t,BR hj,hb⟩
theorem ci {w:World}{b:Nat}{o:Obj}(h:w.heap[b]?=some o):b<w.heap.size:=by
 rcases BY b w.heap.size with g|g
 ·exact g
 ·rw[CM g]at h;cases h
theorem Holds.frame {w w':World}{t:DT}(h:Holds w t):(∀b∈bl t,b<w.heap.size→w'.heap[b]?=w.heap[b]?)→Holds w' t:=by
 induction h with
 |v x=>exact fun _=>.v x
 |any=>exact fun _=>.any
 |e k d z=>exact fun _=>.e k d z
 |s k d z rows h hsp c e f hb hcap hz hv hh g =>intro hs;exact .s k d z rows h hsp c e f (by rw[hs _ (en h) (ci hb)];exact hb) hcap hz hv fun i row j t hi a =>g i row j t hi a fun b hb=>hs b (ea hi a hb)
theorem OwnT.frame {w w':World}{t:DT}(h:OwnT w t):(∀b∈bl t,b<w.heap.size→w'.heap[b]?=w.heap[b]?)→OwnT w' t:=by
 induction h with
 |v x=>exact fun _=>.v x
 |any=>exact fun _=>.any
 |nil d z h hsp hc=>exact fun _=>.nil d z h hsp hc
 |s d z rows h hsp c e lo hi hb hcap hroom hf hh f =>intro hs;exact .s d z rows h hsp c e lo hi (by rw[hs _ (en h) (ci hb)];exact hb) hcap hroom hf fun i row j t hi a =>f i row j t hi a fun b hb=>hs b (ea hi a hb)
theorem Holds.lt {w:World}{t:DT}(h:Holds w t)(l:OwnT w t):∀b∈bl t,b<w.heap.size:=by
 induction h with
 |v x=>intro b hb;simp[bl]at hb
 |any=>intro b hb;simp[bl]at hb
 |e k d z =>
  intro b hb;rw[bv]at hb;cases l with
  |nil d z h hsp hc=>simp[h]at hb
  |s d z rows h hsp c e lo hi a =>
   simp[h]at hb;subst hb;rcases BY d.b w.heap.size with g|g
   ·exact g
   ·rw[CM g]at a;cases a
 |s k d z rows h hsp c e f hb hcap hz hv hh n =>
  intro b a;rw[bv,h]at a;simp only[Ch,CD,Cm,B5,B4]at a;rcases a with rfl|⟨row,o,t,p,a⟩
  ·rcases BY d.b w.heap.size with g|g
   ·exact g
   ·rw[CM g]at hb;cases hb
  ·obtain⟨i,hi⟩:=BX o;obtain⟨j,m⟩:=BX p;refine n i row j t hi m ?_ b a;cases l with
   |nil d z q hsp hc=>simp[h]at q
   |s d z rows h hsp c e lo hi hb hcap hroom hf hh=>exact hh i row j t ‹_› m
def ownR (t:DT):List Nat:=if t.isOwn then bl t else []
def ownBl:DSl→List Nat| .one t=>ownR t| .agg ts=>ts.flatMap ownR| .box b ts=>b.1::ts.flatMap ownR| .tup rs=>rs.flatMap fun r=>r.2.flatMap ownR|_=>[]
def af:DSl→List DT
 | .one t=>[t]
 | .agg ts=>ts
 | .box _ ts=>ts
 | .im _ _ ts _=>ts
 | .fni _ caps=>caps.flatMap (·.2)
 | .tup rs=>rs.flatMap (·.2)
 |_=>[]
def rootsO:DSl→List DT
 | .one t=>[t]
 | .agg ts=>ts
 | .box _ ts=>ts
 | .tup rs=>rs.flatMap (·.2)
 |_=>[]
def VCells (ts:List DT)(cs:List Value):Prop:=ts.length=cs.length∧∀(i:Nat)(t:DT)(y:Value),ts[i]?=some t→cs[i]?=some y→VT t y
def VPart (r:Bool×List DT)(y:Value):Prop:=if r.1 then ∃cs:Array Value,y = .agg cs∧VCells r.2 cs.toList else ∃t,r.2=[t]∧VT t y
def b6 (D:DSt)(h c:Nat)(st:List (Nat×Nat))(d:Dec)(z n:Nat):Prop :=∃t,ah D h c=some t∧t.isOwn=true∧∃k rows,getN t st=some (.s k d z rows)∧rows.length=n
def sL:zl→List (Nat×Nat)→Value| .fn f,a=>.func (.func f) #[] (a.map fun b=>Value.pointer (some ⟨b.1,b.2,none⟩)).toArray| .arr offs,a=>.agg ((a.zip offs).map fun p=>Value.pointer (some ⟨p.1.1,p.1.2+p.2,none⟩)).toArray
def VS (D:DSt):DSl→Value→Prop| .any,_=>True| .one t,y=>VT t y| .agg ts,y=>∃cs:Array Value,y = .agg cs∧VCells ts cs.toList| .box b _,y=>y = .pointer (some ⟨b.1,b.2,none⟩)| .al h c st lo len,y=>∃d z n a,b6 D h c st d z n∧lo+len≤n∧y = .slice a len (d.cap-lo)∧(lo<d.cap→a=some ⟨d.b,d.o+lo*z,none⟩)∧(lo=0→a=if d.nil then none else some ⟨d.b,d.o,none⟩)| .pb h off,y=>∃b ts,D[h]?=some (.box b ts)∧y = .pointer (some ⟨b.1,b.2+off,none⟩)| .pe h c st i off,y=>∃d z n,b6 D h c st d z n∧i<n∧y = .pointer (some ⟨d.b,d.o+i*z+off,none⟩)| .im _ b _ off,y=>y = .pointer (some ⟨b.1,b.2+off,none⟩)| .fni f caps,y=>y = .func (.func f) #[] (caps.map fun b=>Value.pointer (some ⟨b.1.1,b.1.2,none⟩)).toArray| .clo f hs,y=>∃e:List (Nat×Nat),e.length=hs.length∧(∀(i h:Nat)(b:Nat×Nat),hs[i]?=some h→e[i]?=some b→∃ts,D[h]?=some (.box b ts)) ∧ y=sL f e| .tup rs,y=>∃g:Array Value,y = .tuple g∧rs.length=g.toList.length∧∀(i:Nat)(r:Bool×List DT)(v:Value),rs[i]?=some r→g.toList[i]?=some v→VPart r v
def Lies (w:World)(b:Nat×Nat)(ts:List DT):Prop :=∃c e f,w.heap[b.1]?=some (.cells c e f)∧∀(j:Nat)(t:DT),ts[j]?=some t→∃y,c[b.2+j]?=some y∧VT t y
def Free (w:World)(b:Nat×Nat)(n:Nat):Prop :=∀c e lo hi,w.heap[b.1]?=some (.cells c e (lo,hi))→∀x,b.2≤x→x<b.2+n→¬(lo≤x∧x<hi)
def sw (w:World):DSl→Prop| .box b ts=>Lies w b ts∧Free w b ts.length| .im _ b ts _=>Lies w b ts| .fni _ caps=>∀p∈caps,Lies w p.1 p.2|_=>True
def MemS (w:World)(s:DSl):Prop :=(∀t∈af s,Holds w t)∧(∀t∈rootsO s,t.isOwn=true→OwnT w t)∧sw w s
structure Cx where
 w0:World
 X:List Nat
 Y:Nat→Prop
def noY:Nat→Prop:=fun _=>False
def Cx.may (cx:Cx)(b:Nat):Prop:=cx.w0.heap.size≤b∨b∈cx.X
def Cx.keep (cx:Cx)(b:Nat):Prop:=b<cx.w0.heap.size∧b∉cx.X
def Cx.far (cx:Cx)(b:Nat):Prop:=cx.keep b∧¬cx.Y b
theorem Cx.keep_not {cx:Cx}{b:Nat}(h:cx.keep b):¬cx.may b:=fun a=>a.elim (fun g=>by have:=h.1;omega) h.2
theorem Cx.far_not {cx:Cx}{b:Nat}(h:cx.far b):¬cx.may b:=Cx.keep_not h.1
structure Cx.Fr (cx:Cx)(w:World):Prop where
 os:w.os=cx.w0.os
 tape:w.tape=cx.w0.tape
 output:w.output=cx.w0.output
 size:cx.w0.heap.size≤w.heap.size
 same:∀b,cx.keep b→w.heap[b]?=cx.w0.heap[b]?
def qK:Nat:=1000000
def aB (cx:Cx)(D:DSt):DT→Prop| .s .far d z rows=>∀x∈bl (.s .far d z rows),cx.far x| .s (.lent h c b) d z rows=>(D.length≤h∧b=false∧∀x∈bl (.s (.lent h c b) d z rows),cx.keep x)∨∃t,ah D h c=some t∧t.isOwn=true∧(∀x∈bl (.s (.lent h c b) d z rows),x∈bl t)∧(b=true→∃e a,t = .s .own d e a∧a.length=rows.length)|_=>True
def iK (cx:Cx)(D:DSt)(k:Kd)(b:Nat)(ts:List DT):Prop :=
 match k with
 | .own=>False
 | .far=>cx.far b∧∀t∈ts,∀x∈bl t,cx.far x
 | .lent h c _=>(D.length≤h∧cx.keep b∧∀u∈ts,∀x∈bl u,cx.keep x)∨∃t,ah D h c=some t∧t.isOwn=true∧b∈bl t∧∀u∈ts,∀x∈bl u,x∈bl t
def bZ (cx:Cx)(D:DSt):DSl→Prop| .im k b ts _=>iK cx D k b.1 ts| .fni _ caps=>∀p∈caps,cx.far p.1.1∧∀t∈p.2,∀x∈bl t,cx.far x|s=>∀t∈af s,aB cx D t
def az (D:DSt)(b:Nat):Nat:=(D.flatMap ownBl).count b
def aq (P:List (DT×Value))(b:Nat):Nat:=(P.flatMap fun p=>ownR p.1).count b
structure Inv (cx:Cx)(D:DSt)(P:List (DT×Value))(tm:Array Value)(w:World):Prop where
 size:D.length=tm.size
 val:∀(t:Nat)(s:DSl),D[t]?=some s→VS D s (tm.getD t undef)
 mem:∀s∈D,MemS w s
 kind:∀s∈D,bZ cx D s
 pend:∀p∈P,VT p.1 p.2∧Holds w p.1∧(p.1.isOwn=true→OwnT w p.1)∧(p.1.isOwn=false→∀x∈bl p.1,cx.far x)
 once:∀b,az D b+aq P b≤1
 bnd:∀b,0<az D b+aq P b→cx.may b∧b<w.heap.size
 frame:cx.Fr w
def bd (t:Nat):DSl→Prop| .al h _ _ _ _=>h=t| .pe h _ _ _ _=>h=t| .pb h _=>h=t| .clo _ hs=>t∈hs| .im (.lent h _ _) _ _ _=>h=t| .one u=>∃c a d z r,u = .s (.lent t c a) d z r| .agg ts=>∃u∈ts,∃c a d z r,u = .s (.lent t c a) d z r| .box _ ts=>∃u∈ts,∃c a d z r,u = .s (.lent t c a) d z r| .tup rs=>∃p∈rs,∃u∈p.2,∃c a d z r,u = .s (.lent t c a) d z r|_=>False
theorem lN {α:Type}{l:List α}{t:Nat}{x:α}(h:l[t]?=some x)(g:l.length≤t):False:=by rw[BV g]at h;cases h
theorem gC {D:DSt}{t h c:Nat}{x:DSl}(a:h≠t):ah (D.set t x) h c=ah D h c:=by unfold ah;rw[B3 (fun e=>a e.symm)]
theorem oH {D:DSt}{t h c:Nat}{st:List (Nat×Nat)}{x:DSl}{d:Dec}{z n:Nat}(a:h≠t):b6 (D.set t x) h c st d z n↔b6 D h c st d z n:=by unfold b6;rw[gC a]
theorem mZ {D:DSt}{t:Nat}{x s:DSl}{y:Value}(a:¬bd t s)(h:VS D s y):VS (D.set t x) s y:=by
 cases s with
 |al d c st lo len=>simp only[VS,oH (show d≠t from a)]at *;exact h
 |pe d c st i off=>simp only[VS,oH (show d≠t from a)]at *;exact h
 |pb d off =>simp only[VS]at *;rw[B3 (fun e=>a e.symm)];exact h
 |clo f hs =>
  simp only[VS]at *;obtain⟨g,j,k,l⟩:=h;refine⟨g,j,fun i h b hi hb=>?_,l⟩;have:h≠t:=fun e=>a (e ▸ BR hi)
  rw[B3 (fun e=>this e.symm)];exact k i h b hi hb
 |_=>exact h
theorem kM {cx:Cx}{D:DSt}{t:Nat}{x:DSl}{u:DT}(b:∀c a d z r,u ≠ .s (.lent t c a) d z r)(h:aB cx D u):aB cx (D.set t x) u:=by
 cases u with
 |v x=>exact trivial
 |any=>exact trivial
 |s k d z r =>
  cases k with
  |own=>exact trivial
  |far=>exact h
  |lent f c a =>
   have:f≠t:=fun e=>b c a d z r (by rw[e])
   simp only[aB,gC this,Dm]at *;exact h
theorem jD {cx:Cx}{D:DSt}{t:Nat}{x s:DSl}(g:¬bd t s)(h:bZ cx D s):bZ cx (D.set t x) s:=by
 cases s with
 |im k b ts off =>
  cases k with
  |own=>exact h
  |far=>exact h
  |lent i c a=>simp only[bZ,iK,gC (show i≠t from g),Dm]at *;exact h
 |fni f caps=>exact h
 |one u=>exact fun v hv=>by simp[af]at hv;subst hv;exact kM (fun c a d z r e=>g ⟨c,a,d,z,r,e⟩) (h _ (by simp[af]))
 |agg ts=>exact fun v hv=>kM (fun c a d z r e=>g ⟨v,hv,c,a,d,z,r,e⟩) (h _ hv)
 |box b ts=>exact fun v hv=>kM (fun c a d z r e=>g ⟨v,hv,c,a,d,z,r,e⟩) (h _ hv)
 |tup rs =>
  refine fun v hv=>kM (fun c a d z r e=>?_) (h _ hv)
  simp only[af,B5]at hv;obtain⟨p,j,hv⟩:=hv;exact g ⟨p,j,v,hv,c,a,d,z,r,e⟩
 |any=>exact fun v hv=>by simp[af]at hv
 |al=>exact fun v hv=>by simp[af]at hv
 |pe=>exact fun v hv=>by simp[af]at hv
 |pb=>exact fun v hv=>by simp[af]at hv
 |clo=>exact fun v hv=>by simp[af]at hv
theorem T.dead_own {p:Nat→Nat→Bool}{t:DT}(h:t.isOwn=true):t.dead p=t:=by
 cases t with
 |v x=>rfl
 |any=>rfl
 |s k d z r=>cases k<;>simp_all[T.isOwn,T.dead]
theorem T.dead_cases (p:Nat→Nat→Bool)(t:DT):t.dead p=t∨(t.dead p = .any∧t.isOwn=false):=by
 cases t with
 |v x=>exact .inl rfl
 |any=>exact .inl rfl
 |s k d z r =>
  cases k with
  |own=>exact .inl rfl
  |far=>exact .inl rfl
  |lent h c a =>
   simp only[T.dead];split
   ·exact .inr ⟨rfl,rfl⟩
   ·exact .inl rfl
theorem nC (p:Nat→Nat→Bool)(t:DT):ownR (t.dead p)=ownR t:=by
 rcases T.dead_cases p t with h|⟨h,a⟩
 ·rw[h]
 ·rw[h];simp only[ownR,a];rfl
theorem nR {p:Nat→Nat→Bool}{t:DT}{y:Value}(h:VT t y):VT (t.dead p) y:=by
 rcases T.dead_cases p t with e|⟨e,_⟩
 ·rwa [e]
 ·rw[e];exact h.one
theorem vz {p:Nat→Nat→Bool}{t:DT}{w:World}(h:Holds w t):Holds w (t.dead p):=by
 rcases T.dead_cases p t with e|⟨e,_⟩
 ·rwa [e]
 ·rw[e];exact .any
theorem lO (p:Nat→Nat→Bool)(q:Nat→Nat→Bool→Bool)(s:DSl):ap (s.dead p q)=(ap s).map (List.map (T.dead p)):=by
 cases s with
 |al h c st lo len=>simp only[Sl.dead];split<;>rfl
 |pe h c st i off=>simp only[Sl.dead];split<;>rfl
 |im k b ts off =>
  simp only[Sl.dead];split
  ·split<;>rfl
  ·rfl
 |_=>rfl
theorem ur (p:Nat→Nat→Bool)(q:Nat→Nat→Bool→Bool)(D:DSt)(h c:Nat):ah (St.dead p q D) h c=(ah D h c).map (T.dead p):=by
 unfold ah St.dead;rw[B6];cases D[h]? with
 |none=>rfl
 |some s =>
  simp only[BQ,BU,lO];cases ap s with
  |none=>rfl
  |some cs=>simp[B6]
theorem dt {p:Nat→Nat→Bool}{q:Nat→Nat→Bool→Bool}{D:DSt}{h c:Nat}{t:DT}(e:ah D h c=some t)(a:t.isOwn=true):ah (St.dead p q D) h c=some t:=by rw[ur,e,BQ,T.dead_own a]
theorem tM {p:Nat→Nat→Bool}{q:Nat→Nat→Bool→Bool}{D:DSt}{h c:Nat}{st:List (Nat×Nat)}{d:Dec}{z n:Nat}(e:b6 D h c st d z n):b6 (St.dead p q D) h c st d z n:=by obtain⟨t,b,a,f⟩:=e;exact⟨t,dt b a,a,f⟩
theorem sG {p:Nat→Nat→Bool}{q:Nat→Nat→Bool→Bool}{D:DSt}{h:Nat}{b:Nat×Nat}{ts:List DT}(e:D[h]?=some (.box b ts)):(St.dead p q D)[h]?=some (.box b (ts.map (T.dead p))):=by unfold St.dead;rw[B6,e];rfl
theorem k7 {p:Nat→Nat→Bool}{ts:List DT}{cs:List Value}(h:VCells ts cs):VCells (ts.map (T.dead p)) cs:=by refine⟨by simpa using h.1,fun i t y hi a=>?_⟩;rw[B6,BS]at hi;obtain⟨t',hi,rfl⟩:=hi;exact nR (h.2 i t' y hi a)
theorem wE {p:Nat→Nat→Bool}{w:World}{b:Nat×Nat}{ts:List DT}(h:Lies w b ts):Lies w b (ts.map (T.dead p)):=by obtain⟨c,e,f,hb,hv⟩:=h;refine⟨c,e,f,hb,fun j t a=>?_⟩;rw[B6,BS]at a;obtain⟨t',a,rfl⟩:=a;obtain⟨y,d,g⟩:=hv j t' a;exact⟨y,d,nR g⟩
theorem nQ {D D':DSt}(l:∀h c st d z n,b6 D h c st d z n→b6 D' h c st d z n)
  (hb:∀(h:Nat)(b:Nat×Nat)(ts:List DT),D[h]?=some (Sl.box b ts)→∃ts':List DT,D'[h]?=some (Sl.box b ts')) {s:DSl} {y:Value} (h:VS D s y):VS D' s y:=by
 cases s with
 |al m c st lo len =>obtain⟨d,z,n,a,e,g⟩:=h;exact⟨d,z,n,a,l _ _ _ _ _ _ e,g⟩
 |pe m c st i off =>obtain⟨d,z,n,e,g⟩:=h;exact⟨d,z,n,l _ _ _ _ _ _ e,g⟩
 |pb m off =>obtain⟨b,ts,e,g⟩:=h;obtain⟨ts',j⟩:=hb _ _ _ e;exact⟨b,ts',j,g⟩
 |clo f hs =>obtain⟨o,e,g,j⟩:=h;refine⟨o,e,fun i h b hi k=>?_,j⟩;obtain⟨ts,p⟩:=g i h b hi k;exact hb _ _ _ p
 |_=>exact h
theorem vc {p:Nat→Nat→Bool}{q:Nat→Nat→Bool→Bool}{D:DSt}{s:DSl}{y:Value}(h:VS D s y):VS (St.dead p q D) (s.dead p q) y:=by
 have a:VS (St.dead p q D) s y:=nQ (fun _ _ _ _ _ _=>tM) (fun _ _ _ e=>⟨_,sG e⟩) h;cases s with
 |one t=>exact nR h
 |agg ts =>obtain⟨cs,d,f⟩:=h;exact⟨cs,d,k7 f⟩
 |al m c st lo len=>simp only[Sl.dead];split<;>first|trivial|exact a
 |pe m c st i off=>simp only[Sl.dead];split<;>first|trivial|exact a
 |im k b ts off =>
  simp only[Sl.dead];split
  ·split<;>first|trivial|exact a
  ·exact a
 |tup rs =>
  obtain⟨n,d,f,o⟩:=h;refine⟨n,d,by simpa using f,fun i r v hi hv=>?_⟩;rw[B6,BS]at hi;obtain⟨u,hi,rfl⟩:=hi;have:=o i u v hi hv;unfold VPart at *;simp only;split
  ·rename_i g;simp only[g,CI]at this;obtain⟨cs,j,l⟩:=this;exact⟨cs,j,k7 l⟩
  ·rename_i g;simp only[g]at this;obtain⟨t,j,l⟩:=this;exact⟨t.dead p,by rw[j];rfl,nR l⟩
 |_=>exact a
theorem nI {p:Nat→Nat→Bool}{q:Nat→Nat→Bool→Bool}{s:DSl}{u:DT}(h:u∈af (s.dead p q)):
  ∃v∈af s,u=v∨(u = .any):=by
 have a:∀(ts:List DT),u∈ts.map (T.dead p)→∃v∈ts,u=v∨u = .any:=by
  intro ts d;obtain⟨v,hv,rfl⟩:=B7.1 d;rcases T.dead_cases p v with e|⟨e,_⟩
  ·exact⟨v,hv,.inl e⟩
  ·exact⟨v,hv,.inr e⟩
 cases s with
 |one t=>exact a [t] h
 |agg ts=>exact a ts h
 |box b ts=>exact a ts h
 |al j c st lo len=>simp only[Sl.dead]at h;split at h<;>simp[af]at h
 |pe j c st i off=>simp only[Sl.dead]at h;split at h<;>simp[af]at h
 |im k b ts off =>
  simp only[Sl.dead]at h;split at h
  ·split at h
   ·simp[af]at h
   ·exact⟨u,h,.inl rfl⟩
  ·exact⟨u,h,.inl rfl⟩
 |tup rs =>simp only[Sl.dead,af,B5,B7]at h;obtain⟨r,⟨g,l,rfl⟩,d⟩:=h;obtain⟨v,hv,e⟩:=a g.2 d;exact⟨v,by simp only[af,B5];exact⟨g,l,hv⟩,e⟩
 |any=>simp[Sl.dead,af]at h
 |pb=>simp[Sl.dead,af]at h
 |clo=>simp[Sl.dead,af]at h
 |fni f caps=>exact⟨u,h,.inl rfl⟩
theorem u1 {p:Nat→Nat→Bool}{q:Nat→Nat→Bool→Bool}{s:DSl}{u:DT}(h:u∈rootsO (s.dead p q)):
  ∃v∈rootsO s,u=v∨(u = .any):=by
 have a:∀(ts:List DT),u∈ts.map (T.dead p)→∃v∈ts,u=v∨u = .any:=by
  intro ts d;obtain⟨v,hv,rfl⟩:=B7.1 d;rcases T.dead_cases p v with e|⟨e,_⟩
  ·exact⟨v,hv,.inl e⟩
  ·exact⟨v,hv,.inr e⟩
 cases s with
 |one t=>exact a [t] h
 |agg ts=>exact a ts h
 |box b ts=>exact a ts h
 |al j c st lo len=>simp only[Sl.dead]at h;split at h<;>simp[rootsO]at h
 |pe j c st i off=>simp only[Sl.dead]at h;split at h<;>simp[rootsO]at h
 |im k b ts off =>
  simp only[Sl.dead]at h;split at h
  ·split at h<;>simp[rootsO]at h
  ·simp[rootsO]at h
 |tup rs =>simp only[Sl.dead,rootsO,B5,B7]at h;obtain⟨r,⟨g,l,rfl⟩,d⟩:=h;obtain⟨v,hv,e⟩:=a g.2 d;exact⟨v,by simp only[rootsO,B5];exact⟨g,l,hv⟩,e⟩
 |any=>simp[Sl.dead,rootsO]at h
 |pb=>simp[Sl.dead,rootsO]at h
 |clo=>simp[Sl.dead,rootsO]at h
 |fni f caps=>simp[Sl.dead,rootsO]at h
theorem qX {p:Nat→Nat→Bool}{q:Nat→Nat→Bool→Bool}{s:DSl}{w:World}(h:MemS w s):MemS w (s.dead p q):=by
 obtain⟨f,g,a⟩:=h;refine⟨fun u d=>?_,fun u d e=>?_,?_⟩
 ·obtain⟨v,hv,rfl|rfl⟩:=nI d
  ·exact f _ hv
  ·exact .any
 ·obtain⟨v,hv,rfl|rfl⟩:=u1 d
  ·exact g _ hv e
  ·cases e
 ·cases s with
  |box b ts=>exact⟨wE a.1,by simpa using a.2⟩
  |al j c st lo len=>simp only[Sl.dead];split<;>trivial
  |pe j c st i off=>simp only[Sl.dead];split<;>trivial
  |im k b ts off =>
   simp only[Sl.dead];split
   ·split
    ·trivial
    ·exact a
   ·exact a
  |_=>exact a
theorem l9 {cx:Cx}{D D':DSt}(b:D'.length=D.length)(hc:∀h c t,ah D h c=some t→t.isOwn=true→ah D' h c=some t){u:DT}(h:aB cx D u):aB cx D' u:=by
 cases u with
 |v x=>trivial
 |any=>trivial
 |s k d z r =>
  cases k with
  |own=>trivial
  |far=>exact h
  |lent g c i =>
   rcases h with h|⟨t,e,a,f⟩
   ·exact .inl (by rw[b];exact h)
   ·exact .inr ⟨t,hc _ _ _ e a,a,f⟩
theorem ug {cx:Cx}{D D':DSt}(d:D'.length=D.length)(hc:∀h c t,ah D h c=some t→t.isOwn=true→ah D' h c=some t){k:Kd}{b:Nat}{ts:List DT}(h:iK cx D k b ts):iK cx D' k b ts:=by
 cases k with
 |own=>exact h
 |far=>exact h
 |lent g c i =>
  rcases h with h|⟨t,e,a,f⟩
  ·exact .inl (by rw[d];exact h)
  ·exact .inr ⟨t,hc _ _ _ e a,a,f⟩
theorem j6 {cx:Cx}{D D':DSt}(a:D'.length=D.length)(hc:∀h c t,ah D h c=some t→t.isOwn=true→ah D' h c=some t){s:DSl}(h:bZ cx D s):bZ cx D' s:=by
 cases s with
 |im k b ts off=>exact ug a hc h
 |fni f caps=>exact h
 |_=>exact fun t d=>l9 a hc (h t d)
theorem pp {cx:Cx}{p:Nat→Nat→Bool}{q:Nat→Nat→Bool→Bool}{D:DSt}{s:DSl}(h:bZ cx D s):bZ cx (St.dead p q D) (s.dead p q):=by
 have a:=j6 (D':=St.dead p q D) (by simp[St.dead]) (fun h c t e l=>dt e l) h;have j:(∀t∈af s,aB cx (St.dead p q D) t)→∀t∈af (s.dead p q),aB cx (St.dead p q D) t:=by
  intro g t d;obtain⟨v,hv,rfl|rfl⟩:=nI d
  ·exact g _ hv
  ·trivial
 cases s with
 |one t=>exact j a
 |agg t=>exact j a
 |box b t=>exact j a
 |tup t=>exact j a
 |im k b ts off =>
  simp only[Sl.dead];split
  ·split
   ·exact fun t d=>by simp[af]at d
   ·exact a
  ·exact a
 |fni f caps=>exact a
 |al m c st lo len=>simp only[Sl.dead];split<;>exact fun t d=>by simp[af]at d
 |pe m c st i off=>simp only[Sl.dead];split<;>exact fun t d=>by simp[af]at d
 |any=>exact a
 |pb=>exact a
 |clo=>exact a
theorem mr (p:Nat→Nat→Bool)(q:Nat→Nat→Bool→Bool)(s:DSl):ownBl (s.dead p q)=ownBl s:=by
 have a:∀ts:List DT,(ts.map (T.dead p)).flatMap ownR=ts.flatMap ownR:=by
  intro ts;induction ts with
  |nil=>rfl
  |cons t ts d=>rw[Cc,B9,B9,d,nC]
 cases s with
 |one t=>exact nC p t
 |agg ts=>exact a ts
 |box b ts=>simp only[Sl.dead,ownBl,a]
 |al e c st lo len=>simp only[Sl.dead];split<;>rfl
 |pe e c st i off=>simp only[Sl.dead];split<;>rfl
 |im k b ts off =>
  simp only[Sl.dead];split
  ·split<;>rfl
  ·rfl
 |tup rs =>
  simp only[Sl.dead,ownBl];induction rs with
  |nil=>rfl
  |cons r rs d=>simp only[Cc,B9,a,d]
 |_=>rfl
theorem gi (p:Nat→Nat→Bool)(q:Nat→Nat→Bool→Bool)(D:DSt):(St.dead p q D).flatMap ownBl=D.flatMap ownBl:=by
 unfold St.dead;induction D with
 |nil=>rfl
 |cons s D a=>simp only[Cc,B9,mr,a]
theorem Inv.dead {cx:Cx}{D:DSt}{P:List (DT×Value)}{tm:Array Value}{w:World}(I:Inv cx D P tm w)(p:Nat→Nat→Bool)(q:Nat→Nat→Bool→Bool):
  Inv cx (St.dead p q D) P tm w where
 size:=by have:=I.size;simpa[St.dead]using this
 val t s hs:=by unfold St.dead at hs;rw[B6,BS]at hs;obtain⟨s',hs,rfl⟩:=hs;exact vc (I.val t s' hs)
 mem s hs:=by obtain⟨s',a,rfl⟩:=B7.1 hs;exact qX (I.mem s' a)
 kind s hs:=by obtain⟨s',a,rfl⟩:=B7.1 hs;exact pp (I.kind s' a)
 pend:=I.pend
 once:=by unfold az;rw[gi];exact I.once
 bnd:=by unfold az;rw[gi];exact I.bnd
 frame:=I.frame
theorem lP (t:Nat)(s:DSl):ap (s.gone t)=ap s:=by
 cases s with
 |pb h off=>simp only[Sl.gone];split<;>rfl
 |clo f hs=>simp only[Sl.gone];split<;>rfl
 |_=>rfl
theorem ol (t:Nat)(D:DSt)(h c:Nat):ah (D.map (Sl.gone t)) h c=ah D h c:=by
 unfold ah;rw[B6];cases D[h]? with
 |none=>rfl
 |some s=>simp only[BQ,BU,lP]
theorem nJ (t:Nat)(s:DSl):af (s.gone t)=af s:=by
 cases s with
 |pb h off=>simp only[Sl.gone];split<;>rfl
 |clo f hs=>simp only[Sl.gone];split<;>rfl
 |_=>rfl
theorem oL (t:Nat)(s:DSl):rootsO (s.gone t)=rootsO s:=by
 cases s with
 |pb h off=>simp only[Sl.gone];split<;>rfl
 |clo f hs=>simp only[Sl.gone];split<;>rfl
 |_=>rfl
theorem i7 (t:Nat)(s:DSl):ownBl (s.gone t)=ownBl s:=by
 cases s with
 |pb h off=>simp only[Sl.gone];split<;>rfl
 |clo f hs=>simp only[Sl.gone];split<;>rfl
 |_=>rfl
theorem vd {D:DSt}{t:Nat}{s:DSl}{y:Value}(h:VS D s y):VS (D.map (Sl.gone t)) (s.gone t) y:=by
 have a:VS (D.map (Sl.gone t)) s y:=nQ (D:=D)
  (fun h c st d z n e=>by unfold b6 at *;rw[ol];exact e)
  (fun h b ts e=>⟨ts,by rw[B6,e];rfl⟩) h
 cases s with
 |pb h off=>simp only[Sl.gone];split<;>first|trivial|exact a
 |clo f hs=>simp only[Sl.gone];split<;>first|trivial|exact a
 |_=>exact a
theorem qY {t:Nat}{w:World}{s:DSl}(h:sw w s):sw w (s.gone t):=by
 cases s with
 |pb h off=>simp only[Sl.gone];split<;>trivial
 |clo f hs=>simp only[Sl.gone];split<;>trivial
 |_=>exact h
theorem pq {cx:Cx}{D:DSt}{t:Nat}{s:DSl}(h:bZ cx D s):bZ cx (D.map (Sl.gone t)) (s.gone t):=by
 have b:=j6 (D':=D.map (Sl.gone t)) (by simp) (fun h c u e _=>by rw[ol];exact e) h;cases s with
 |pb h off=>simp only[Sl.gone];split<;>exact fun t a=>by simp[af]at a
 |clo f hs=>simp only[Sl.gone];split<;>exact fun t a=>by simp[af]at a
 |_=>exact b
theorem Inv.gone {cx:Cx}{D:DSt}{P:List (DT×Value)}{tm:Array Value}{w:World}(I:Inv cx D P tm w)(t:Nat):Inv cx (D.map (Sl.gone t)) P tm w where
 size:=by have:=I.size;simpa using this
 val u s hs:=by rw[B6,BS]at hs;obtain⟨s',hs,rfl⟩:=hs;exact vd (I.val u s' hs)
 mem s hs:=by obtain⟨s',a,rfl⟩:=B7.1 hs;have:=I.mem s' a;exact⟨by rw[nJ];exact this.1,by rw[oL];exact this.2.1,qY this.2.2⟩
 kind s hs:=by obtain⟨s',a,rfl⟩:=B7.1 hs;exact pq (I.kind s' a)
 pend:=I.pend
 once:=by
  have:(D.map (Sl.gone t)).flatMap ownBl=D.flatMap ownBl:=by rw[De];exact Ds (fun f=>List.flatMap f D) (funext (i7 t))
  unfold az;rw[this];exact I.once
 bnd:=by
  have:(D.map (Sl.gone t)).flatMap ownBl=D.flatMap ownBl:=by rw[De];exact Ds (fun f=>List.flatMap f D) (funext (i7 t))
  unfold az;rw[this];exact I.bnd
 frame:=I.frame
def bf (t:Nat)(D:DSt):DSt:=(St.dead (atH t) (qH t) D).map (Sl.gone t)
theorem sM (t:Nat)(u:DT)(c:Nat)(a:Bool)(d:Dec)(z:Nat)(r:List (List DT)):u.dead (atH t) ≠ .s (.lent t c a) d z r:=by
 cases u with
 |v x=>simp[T.dead]
 |any=>simp[T.dead]
 |s k b f g =>
  cases k with
  |own=>simp[T.dead]
  |far=>simp[T.dead]
  |lent h i a =>
   simp only[T.dead,atH];by_cases e:h=t
   ·subst e;simp
   ·simp[e]
theorem i9 {t:Nat}{D:DSt}:∀s∈bf t D,¬bd t s:=by
 intro s hs a;unfold bf St.dead at hs;rw[Ct]at hs;obtain⟨u,j,rfl⟩:=B7.1 hs;have l:∀ts:List DT,¬ ∃u∈ts.map (T.dead (atH t)),∃c g d z r,u = .s (.lent t c g) d z r:=by rintro ts ⟨u,j,c,g,d,z,r,e⟩;obtain⟨v,hv,rfl⟩:=B7.1 j;exact sM t v c g d z r e
 cases u with
 |any=>exact a
 |one v=>obtain⟨c,g,d,z,r,e⟩:=a;exact sM t v c g d z r e
 |agg ts=>exact l ts a
 |box b ts=>exact l ts a
 |al h c st lo len =>
  simp only[Function.comp,Sl.dead,qH]at a;by_cases e:h=t
  ·subst e;simp[Sl.gone,bd]at a
  ·simp[e,Sl.gone,bd]at a
 |pe h c st i off =>
  simp only[Function.comp,Sl.dead,qH]at a;by_cases e:h=t
  ·subst e;simp[Sl.gone,bd]at a
  ·simp[e,Sl.gone,bd]at a
 |pb h off =>
  simp only[Function.comp,Sl.dead,Sl.gone]at a;by_cases e:h=t
  ·simp[e,bd]at a
  ·simp[e,bd]at a
 |clo f m =>
  simp only[Function.comp,Sl.dead,Sl.gone]at a;by_cases e:t∈m
  ·simp[e,bd]at a
  ·simp[e,bd]at a
 |im k b ts off =>
  cases k with
  |own=>exact a
  |far=>exact a
  |lent h c g =>
   simp only[Function.comp,Sl.dead,atH]at a;by_cases e:h=t
   ·subst e;simp[Sl.gone,bd]at a
   ·simp[e,Sl.gone,bd]at a
 |fni f caps=>exact a
 |tup rs =>obtain⟨p,n,u,j,c,g,d,z,r,e⟩:=a;obtain⟨o,q,rfl⟩:=B7.1 n;exact l o.2 ⟨u,j,c,g,d,z,r,e⟩
theorem Inv.quiet {cx:Cx}{D:DSt}{P:List (DT×Value)}{tm:Array Value}{w:World}(I:Inv cx D P tm w)(t:Nat):Inv cx (bf t D) P tm w:=(I.dead _ _).gone t
theorem aE {α:Type}(f:α→List Nat)(x:α)(b:Nat):∀(l:List α)(t:Nat)(y:α),l[t]?=some y →
  (f y).count b+((l.set t x).flatMap f).count b=(f x).count b+(l.flatMap f).count b
 |[],t,y,h=>by simp at h
 |a::l,0,y,h=>by simp at h;subst h;simp only[List.set_cons_zero,B9,Ce];omega
 |a::l,t+1,y,h=>by simp only[C7]at h;have c:=aE f x b l t y h;simp only[List.set_cons_succ,B9,Ce];omega
theorem de (P Q:List (DT×Value))(b:Nat):aq (P++Q) b=aq P b+aq Q b:=by unfold aq;rw[CZ,Ce]
theorem a6 (b:Nat):aq [] b=0:=rfl
theorem eT (p:DT×Value)(P:List (DT×Value))(b:Nat):aq (p::P) b=(ownR p.1).count b+aq P b:=by unfold aq;rw[B9,Ce]
theorem Inv.fillF {cx:Cx}{D:DSt}{P Q:List (DT×Value)}{tm:Array Value}{w:World}(I:Inv cx D (P++Q) tm w){t:Nat}{i s:DSl}{y:Value}(F:Nat→Nat)
  (j:∀b,0<F b→F b≤1∧az D b+aq (P++Q) b=0∧cx.may b∧b<w.heap.size)
  (c:D[t]?=some i) (k:∀s∈D,¬bd t s) (l:¬bd t s) (hv:VS D s y) (m:MemS w s) (n:bZ cx D s)
  (o:∀b,(ownBl s).count b≤aq P b+F b):Inv cx (D.set t s) Q (tm.setIfInBounds t y) w:=by
 have d:t<D.length:=by
  rcases BY t D.length with g|g
  ·exact g
  ·rw[BV g]at c;cases c
 have a:∀b,az (D.set t s) b+aq Q b≤az D b+aq (P++Q) b+F b:=by intro b;have f:=aE ownBl s b D t i c;have q:=o b;rw[de];unfold az;omega
 refine⟨by have:=I.size;simpa using this,fun u s' hs=>?_,fun s' hs=>?_,fun s' hs=>?_,fun p r=>I.pend p (Cm.2 (.inr r)),
  fun b=>?_,fun b hb=>?_,I.frame⟩
 ·by_cases e:u=t
  ·subst e;rw[B1 d]at hs;cases hs;have:u<tm.size:=by rw[←I.size];exact d
   simp only[Cv,Array.getElem?_setIfInBounds_self,this,CI,DJ];exact mZ l hv
  ·rw[B3 (fun h=>e h.symm)]at hs;have f:=I.val u s' hs;simp only[Cv]at f ⊢;rw[DQ (fun h=>e h.symm)];exact mZ (k s' (BR hs)) f
 ·rcases CK hs with h|rfl
  ·exact I.mem s' h
  ·exact m
 ·rcases CK hs with h|rfl
  ·exact jD (k s' h) (I.kind s' h)
  ·exact jD l n
 ·have f:=a b;have q:=I.once b;rcases CE (F b)with g|g
  ·omega
  ·have:=j b g;omega
 ·have f:=a b;rcases CE (F b)with g|g
  ·exact I.bnd b (by omega)
  ·exact(j b g).2.2
theorem Inv.fill {cx:Cx}{D:DSt}{P Q:List (DT×Value)}{tm:Array Value}{w:World}(I:Inv cx D (P++Q) tm w){t:Nat}{c s:DSl}{y:Value}
  (a:D[t]?=some c) (d:∀s∈D,¬bd t s) (e:¬bd t s) (hv:VS D s y) (f:MemS w s) (g:bZ cx D s)
  (i:∀b,(ownBl s).count b≤aq P b):Inv cx (D.set t s) Q (tm.setIfInBounds t y) w :=
 I.fillF (fun _=>0) (fun b h=>absurd h (Dn 0)) a d e hv f g i
theorem Inv.take {cx:Cx}{D:DSt}{P:List (DT×Value)}{tm:Array Value}{w:World}(I:Inv cx D P tm w){t:Nat}{a:DSl}{cs:List (DT×Value)}
  (hs₀:D[t]?=some a) (o:∀p∈cs,p.1∈rootsO a∧p.1∈af a∧VT p.1 p.2) (O:∀p∈cs,∀h c q d z r,p.1 ≠ .s (.lent h c q) d z r)
  (y:∀b,aq cs b≤(ownBl a).count b) (A:∀k b ts off,a ≠ .im k b ts off) (B:∀f caps,a ≠ .fni f caps):Inv cx (au t D) (cs++P) tm w:=by
 have j:=I.quiet t;have hs:(bf t D)[t]?=some ((a.dead (atH t) (qH t)).gone t):=by unfold bf St.dead;rw[B6,B6,hs₀];rfl
 have e:au t D=(bf t D).set t .any:=rfl;have C:t<(bf t D).length:=by
  rcases BY t (bf t D).length with g|g
  ·exact g
  ·rw[BV g]at hs;cases hs
 have F:ownBl ((a.dead (atH t) (qH t)).gone t)=ownBl a:=by rw[i7,mr]
 have i:∀b,az (au t D) b+aq (cs++P) b≤az (bf t D) b+aq P b:=by intro b;have n:=aE ownBl (Sl.any:DSl) b (bf t D) t _ hs;have L:=y b;rw[de,e];rw[F]at n;unfold az;have V:(ownBl (Sl.any:DSl)).count b=0:=rfl;omega
 have l:a∈D:=BR hs₀;refine⟨by have:=j.size;rw[e];simpa using this,fun u s' hs'=>?_,fun s' hs'=>?_,fun s' hs'=>?_,fun p Q=>?_,
  fun b=>CH (i b) (j.once b),fun b hb=>j.bnd b (Cr hb (i b)),I.frame⟩
 ·rw[e]at hs' ⊢;by_cases M:u=t
  ·subst M;rw[B1 C]at hs';cases hs';trivial
  ·rw[B3 (fun h=>M h.symm)]at hs';exact mZ (i9 s' (BR hs')) (j.val u s' hs')
 ·rw[e]at hs';rcases CK hs' with h|rfl
  ·exact j.mem s' h
  ·exact⟨fun t m=>by simp[af]at m,fun t m=>by simp[rootsO]at m,trivial⟩
 ·rw[e]at hs' ⊢;rcases CK hs' with h|rfl
  ·exact jD (i9 s' h) (j.kind s' h)
  ·exact fun t m=>by simp[af]at m
 ·rcases Cm.1 Q with h|h
  ·obtain⟨G,n,L⟩:=o p h;have N:=I.mem a l;refine⟨L,N.1 _ n,fun y=>N.2.1 _ G y,fun H=>?_⟩;have R:aB cx D p.1:=by
    have:=I.kind a l;cases a with
    |im k b ts off=>exact absurd rfl (A k b ts off)
    |fni f caps=>exact absurd rfl (B f caps)
    |_=>exact this _ n
   have J:=O p h;generalize p.1=u at *;cases u with
   |v x=>intro x K;simp[bl]at K
   |any=>intro x K;simp[bl]at K
   |s k d z r =>
    cases k with
    |own=>simp[T.isOwn]at H
    |far=>exact R
    |lent S U q=>exact absurd rfl (J S U q d z r)
  ·exact I.pend p h
theorem uZ {t:Nat}{s:DSl}:¬bd t (s.clean t):=by
 have h:s.clean t∈bf t [s]:=by simp[bf,St.dead,Sl.clean]
 exact i9 _ h
theorem wc (t:Nat)(D:DSt)(s:DSl):(au t D).set t s=(bf t D).set t s:=by unfold au bf;rw[List.set_set]
theorem xO {D:DSt}{t:Nat}{s:DSl}{y:Value}(h:VS D s y):VS (bf t D) (s.clean t) y:=vd (vc h)
theorem wF {t:Nat}{w:World}{s:DSl}(h:MemS w s):MemS w (s.gone t):=
 ⟨by rw[nJ];exact h.1,by rw[oL];exact h.2.1,qY h.2.2⟩
theorem vB {t:Nat}{w:World}{s:DSl}(h:MemS w s):MemS w (s.clean t):=wF (qX h)
theorem ui {cx:Cx}{D:DSt}{t:Nat}{s:DSl}(h:bZ cx D s):bZ cx (bf t D) (s.clean t):=pq (pp h)
theorem oG (t:Nat)(s:DSl):ownBl (s.clean t)=ownBl s:=by unfold Sl.clean;rw[i7,mr]
theorem pD (t:Nat)(D:DSt)(b:Nat):az (bf t D) b=az D b:=by
 unfold az bf;have:((St.dead (atH t) (qH t) D).map (Sl.gone t)).flatMap ownBl=D.flatMap ownBl:=by rw[De, ←gi (atH t) (qH t) D];exact Ds (fun f=>List.flatMap f (St.dead (atH t) (qH t) D)) (funext (i7 t))
 rw[this]
theorem Inv.putF {cx:Cx}{D:DSt}{P Q:List (DT×Value)}{tm:Array Value}{w:World}(I:Inv cx D (P++Q) tm w){t:Nat}{s:DSl}{y:Value}(F:Nat→Nat)
  (a:∀b,0<F b→F b≤1∧az D b+aq (P++Q) b=0∧cx.may b∧b<w.heap.size)
  (c:t<D.length) (hv:VS D s y) (d:MemS w s) (e:bZ cx D s) (f:∀b,(ownBl s).count b≤aq P b+F b):
  Inv cx (av D (some t) s) Q (tm.setIfInBounds t y) w:=by
 show Inv cx ((au t D).set t (s.clean t)) Q _ w;rw[wc];have g:t<(bf t D).length:=by simpa[bf,St.dead]using c
 exact(I.quiet t).fillF F (fun b hb=>by rw[pD];exact a b hb) (BW g) i9 uZ (xO hv) (vB d) (ui e) (fun b=>by rw[oG];exact f b)
theorem Inv.put {cx:Cx}{D:DSt}{P Q:List (DT×Value)}{tm:Array Value}{w:World}(I:Inv cx D (P++Q) tm w){t:Nat}{s:DSl}{y:Value}
  (a:t<D.length) (hv:VS D s y) (c:MemS w s) (d:bZ cx D s) (e:∀b,(ownBl s).count b≤aq P b):
  Inv cx (av D (some t) s) Q (tm.setIfInBounds t y) w :=
 I.putF (fun _=>0) (fun b h=>absurd h (Dn 0)) a hv c d e
theorem Inv.drewn {cx:Cx}{D:DSt}{P:List (DT×Value)}{tm:Array Value}{w:World}(I:Inv cx D P tm w):Inv cx D P tm w.drew where
 size:=I.size
 val:=I.val
 mem s hs:=by obtain⟨a,b,c⟩:=I.mem s hs;refine⟨fun t d=>(a t d).frame fun _ _ _=>rfl,fun t d e=>(b t d e).frame fun _ _ _=>rfl,?_⟩;cases s<;>exact c
 kind:=I.kind
 pend p f:=by obtain⟨a,b,c,g⟩:=I.pend p f;exact⟨a,b.frame fun _ _ _=>rfl,fun e=>(c e).frame fun _ _ _=>rfl,g⟩
 once:=I.once
 bnd:=I.bnd
 frame:=⟨I.frame.os,I.frame.tape,I.frame.output,I.frame.size,I.frame.same⟩
theorem vF {k:Kd}{t:DT}{y:Value}:VT (t.kd k) y↔VT t y:=by
 cases t with
 |v x=>exact .rfl
 |any=>exact .rfl
 |s k' d z r=>cases k'<;>exact .rfl
theorem kL {w:World}{k k':Kd}{d:Dec}{z:Nat}{r:List (List DT)}(h:Holds w (.s k d z r)):Holds w (.s k' d z r):=by
 cases h with
 |e=>exact .e _ _ _
 |s _ _ _ _ h hsp c e f hb hcap hz hv hh=>exact .s _ _ _ _ h hsp c e f hb hcap hz hv hh
theorem su {w:World}{k:Kd}{t:DT}(h:Holds w t):Holds w (t.kd k):=by
 cases t with
 |v x=>exact h
 |any=>exact h
 |s k' d z r =>
  cases k' with
  |own=>exact kL h
  |_=>exact h
theorem jR (h c:Nat)(a:Bool)(t:DT):(t.kd (.lent h c a)).isOwn=false:=by
 cases t with
 |v x=>rfl
 |any=>rfl
 |s k' d z r=>cases k'<;>rfl
theorem bW {t:DT}(h:t.isOwn=false):ownR t=[]:=by unfold ownR;rw[h];rfl
structure Tells (cx:Cx)(D:DSt)(w:World)(s:DSl)(y:Value):Prop where
 val:VS D s y
 mem:MemS w s
 kind:bZ cx D s
 noown:ownBl s=[]
section
variable  {δ β : Type}
def jG (D:St δ β)(t:Nat):Option (Sl δ β):=
 match D[t]? with
 |some (.one (.s .own _ _ rows))=>some (.al t 0 [] 0 rows.length)
 |some (.one u)=>some (.one u)
 |some (.agg ts)=>some (.agg (ts.mapIdx fun c u=>u.kd (.lent t c true)))
 |some (.box _ _)=>some (.pb t 0)
 |some (.al h c st lo len)=>some (.al h c st lo len)
 |some (.pb h off)=>some (.pb h off)
 |some (.pe h c st i off)=>some (.pe h c st i off)
 |some (.im k b ts off)=>some (.im k b ts off)
 |some (.fni f caps)=>some (.fni f caps)
 |some (.clo f hs)=>some (.clo f hs)
 |_=>none
def vf:Value→Bool| .slice _ _ _=>false|x=>x.oneCell'
def lG (nil:δ):Value→Option (Sl δ β)| .slice none 0 0=>some (.one (.s .own nil 0 []))| .pointer none=>some .any|x=>if vf x then some (.one (.v x))else none
def opd (nil:δ)(D:St δ β):Operand→Option (Sl δ β)| .tmp t=>jG D t| .const x=>lG nil x| .func f=>some (.fni f [])| .global _=>none
end
def nilD:Dec:=⟨0,0,0,true,none⟩
theorem Inv.copy {cx:Cx}{D:DSt}{P:List (DT×Value)}{tm:Array Value}{w:World}(I:Inv cx D P tm w){t:Nat}{s:DSl}(h:jG D t=some s):
  Tells cx D w s (tm.getD t undef):=by
 unfold jG at h;cases e:D[t]? with
 |none=>rw[e]at h;cases h
 |some p =>
  have hv:=I.val t p e;have a:=I.mem p (BR e);have g:=I.kind p (BR e);rw[e]at h;cases p with
  |any=>cases h
  |tup rs=>cases h
  |one u =>
   cases u with
   |v x=>cases h;exact⟨hv,a,g,rfl⟩
   |any=>cases h;exact⟨hv,a,g,rfl⟩
   |s k d z rows =>
    cases k with
    |far=>cases h;exact⟨hv,a,g,rfl⟩
    |lent m K B=>cases h;exact⟨hv,a,g,rfl⟩
    |own =>
     cases h;refine⟨?_,⟨fun t j=>by simp[af]at j,fun t j=>by simp[rootsO]at j,trivial⟩,fun t j=>by simp[af]at j,rfl⟩;refine⟨d,z,rows.length,_,⟨.s .own d z rows,by simp[ah,e,ap],rfl,.own,rows,rfl,rfl⟩,by omega,hv,?_,fun _=>Dec.addr_none (a.2.1 (.s .own d z rows) (by simp[rootsO]) rfl).sp⟩;intro hc;have n:=a.2.1 (.s .own d z rows) (by simp[rootsO]) rfl;have hs:=n.sp;cases n with
     |nil d z h q C=>omega
     |s d z rows m=>simp[Dec.addr,m,hs]
  |agg ts =>
   cases h;refine⟨?_,⟨?_,?_,trivial⟩,?_,?_⟩
   ·obtain⟨cs,F,G,H⟩:=hv;refine⟨cs,F,by simpa using G,fun i u y hi J=>?_⟩;rw[Dg,BS]at hi;obtain⟨u',hi,rfl⟩:=hi;exact vF.2 (H i u' y hi J)
   ·intro u l;simp only[af,CS]at l;obtain⟨i,hi,rfl⟩:=l;exact su (a.1 _ (Dt hi))
   ·intro u l n;simp only[rootsO,CS]at l;obtain⟨i,hi,rfl⟩:=l;rw[jR]at n;cases n
   ·intro u l;simp only[af,CS]at l;obtain⟨i,hi,rfl⟩:=l;have o:=g (ts[i]) (Dt hi);have hc:ah D t i=some ts[i]:=by simp[ah,e,ap]
    generalize ts[i]=u at *;cases u with
    |v x=>trivial
    |any=>trivial
    |s k d z r =>
     cases k with
     |own=>exact .inr ⟨_,hc,rfl,fun x A=>(by simp only[bv]at A ⊢;exact A),fun _=>⟨_,_,rfl,rfl⟩⟩
     |far=>exact o
     |lent h c B=>exact o
   ·simp only[ownBl,Ca,CS];rintro u ⟨i,hi,rfl⟩;exact bW (jR _ _ _ _)
  |box b ts =>cases h;refine⟨⟨b,ts,e,by rw[hv];rfl⟩,⟨fun t j=>by simp[af]at j,fun t j=>by simp[rootsO]at j,trivial⟩,fun t j=>by simp[af]at j,rfl⟩
  |al m c st lo len=>cases h;exact⟨hv,a,g,rfl⟩
  |pb m off=>cases h;exact⟨hv,a,g,rfl⟩
  |pe m c st i off=>cases h;exact⟨hv,a,g,rfl⟩
  |im k b ts off=>cases h;exact⟨hv,a,g,rfl⟩
  |fni f caps=>cases h;exact⟨hv,a,g,rfl⟩
  |clo f hs=>cases h;exact⟨hv,a,g,rfl⟩
theorem Tells.one_v {cx:Cx}{D:DSt}{w:World}(x:Value)(b:x.oneCell'=true):Tells cx D w (.one (.v x)) x :=
 ⟨⟨rfl,b⟩,⟨fun t a=>by simp[af]at a;subst a;exact .v x,(fun t a c=>by simp[rootsO]at a;subst a;cases c),trivial⟩,
  fun t a=>by simp[af]at a;subst a;trivial,rfl⟩
theorem Inv.opd {cx:Cx}{D:DSt}{P:List (DT×Value)}{a:Act}{w:World}(I:Inv cx D P a.tmps w){x:Operand}{s:DSl}(h:opd nilD D x=some s):
  Tells cx D w s (a.eval x):=by
 cases x with
 |tmp t=>exact I.copy h
 |global g=>cases h
 |func f =>simp only[Am.opd]at h;cases h;exact⟨rfl,⟨fun t b=>by simp[af]at b,fun t b=>by simp[rootsO]at b,fun p c=>by simp at c⟩,fun p c=>by simp at c,rfl⟩
 |const v =>
  simp only[Am.opd]at h;unfold lG at h;split at h
  ·cases h;exact⟨rfl,⟨fun t b=>by simp[af]at b;subst b;exact .e _ _ _,(fun t b d=>by simp[rootsO]at b;subst b;exact .nil _ _ rfl rfl rfl),trivial⟩,
    fun t b=>by simp[af]at b;subst b;trivial,by simp[ownBl,ownR,T.isOwn,bv,nilD]⟩
  ·cases h;exact⟨trivial,⟨fun t b=>by simp[af]at b,fun t b=>by simp[rootsO]at b,trivial⟩,fun t b=>by simp[af]at b,rfl⟩
  ·split at h
   ·rename_i hc;cases h;exact .one_v _ (by
     unfold vf at hc;split at hc
     ·cases hc
     ·exact hc)
   ·cases h
structure Grew (w w':World):Prop where
 os:w'.os=w.os
 tape:w'.tape=w.tape
 output:w'.output=w.output
 size:w.heap.size≤w'.heap.size
 same:∀b,b<w.heap.size→w'.heap[b]?=w.heap[b]?
theorem Grew.alloc (w:World)(o:Obj):Grew w (w.alloc o):=
 ⟨rfl,rfl,rfl,by simp,fun b hb=>by show(w.heap.push o)[b]?=_;rw[Array.getElem?_push,Cd (by omega)]⟩
theorem Grew.drew (w:World):Grew w w.drew:=⟨rfl,rfl,rfl,Cz _,fun _ _=>rfl⟩
theorem Grew.trans {a b c:World}(h:Grew a b)(k:Grew b c):Grew a c :=
 ⟨k.os.trans h.os,k.tape.trans h.tape,k.output.trans h.output,CH h.size k.size,
  fun i hi=>(k.same i (Cr hi h.size)).trans (h.same i hi)⟩
theorem Lies.grew {w w':World}(g:Grew w w'){b:Nat×Nat}{ts:List DT}(h:Lies w b ts):Lies w' b ts:=by obtain⟨c,e,f,hb,hv⟩:=h;exact⟨c,e,f,by rw[g.same _ (ci hb)];exact hb,hv⟩
theorem Free.grew {w w':World}(g:Grew w w'){b:Nat×Nat}{n:Nat}(a:b.1<w.heap.size)(h:Free w b n):Free w' b n:=by intro c e lo hi hb;rw[g.same _ a]at hb;exact h c e lo hi hb
theorem Lies.lt {w:World}{b:Nat×Nat}{ts:List DT}(h:Lies w b ts):b.1<w.heap.size:=by obtain⟨c,e,f,hb,hv⟩:=h;exact ci hb
theorem MemS.grew {w w':World}(g:Grew w w'){s:DSl}(h:MemS w s):MemS w' s:=by
 obtain⟨d,e,a⟩:=h;refine⟨fun t c=>(d t c).frame fun b _ hb=>g.same b hb,fun t c i=>(e t c i).frame fun b _ hb=>g.same b hb,?_⟩;cases s with
 |box b ts=>exact⟨a.1.grew g,a.2.grew g a.1.lt⟩
 |im k b ts off=>exact Lies.grew g a
 |fni f caps=>exact fun p j=>(a p j).grew g
 |_=>trivial
theorem Cx.Fr.grew {cx:Cx}{w w':World}(g:Grew w w')(h:cx.Fr w):cx.Fr w' :=
 ⟨g.os.trans h.os,g.tape.trans h.tape,g.output.trans h.output,CH h.size g.size,
  fun b hb=>(g.same b (Cr hb.1 h.size)).trans (h.same b hb)⟩
theorem Inv.grew {cx:Cx}{D:DSt}{P:List (DT×Value)}{tm:Array Value}{w w':World}(I:Inv cx D P tm w)(g:Grew w w'):Inv cx D P tm w' where
 size:=I.size
 val:=I.val
 mem s hs:=(I.mem s hs).grew g
 kind:=I.kind
 pend p a:=by obtain⟨c,d,e,f⟩:=I.pend p a;exact⟨c,d.frame fun b _ hb=>g.same b hb,fun h=>(e h).frame fun b _ hb=>g.same b hb,f⟩
 once:=I.once
 bnd b hb:=⟨(I.bnd b hb).1,Cr (I.bnd b hb).2 g.size⟩
 frame:=I.frame.grew g
theorem Tells.grew {cx:Cx}{D:DSt}{w w':World}{s:DSl}{y:Value}(h:Tells cx D w s y)(g:Grew w w'):Tells cx D w' s y :=
 ⟨h.val,h.mem.grew g,h.kind,h.noown⟩
section
inductive Sh where|bool|int (k:IntKind)|str|slice (e:Nat)|struct (offs:List Nat)|ptr (e:Nat)|fn|other deriving DecidableEq
def Sh.agg:Sh→Bool| .struct _=>true|_=>false
structure TI where
 size:Nat
 bytes:Nat
 zero:List (T Unit)
 sh:Sh
def zT (n:Nat):Value→T Unit| .slice none 0 0=>.s .own () n []|x=>.v x
def zM (P:Program):Nat→TypeId→List Nat
 | 0,_=>[]
 |k+1,t =>
  match P.underlying t with
  |some (.slice e)=>[match P.info? e with|some i=>i.size|none=>0]
  |some (.struct fs)=>fs.toList.flatMap fun f=>zM P k f.type
  |_=>[0]
def bG (P:Program)(t:TypeId)(ys:List Value):List (T Unit):=ys.mapIdx fun j y=>zT ((zM P 6 t).getD j 0) y
def mz (P:Program):TypeDesc→Sh
 | .bool=>.bool
 | .int k=>.int k
 | .string=>.str
 | .slice e=>.slice e
 | .pointer e=>.ptr e
 | .func _ _ _=>.fn
 | .struct fs=>if fs.all (fun f=>(P.info? f.type).any fun i=>i.size != 0)then .struct (fs.toList.map (·.offset))else .other
 |_=>.other
def fU (P:Program)(t:TypeId):Option TI :=
 (P.info? t).bind fun i=>(P.underlying t).bind fun d=>i.zero.bind fun z =>if z.cells.toList.all (·.oneCell')then some { size:=i.size,bytes:=i.bytes,zero:=bG P t z.cells.toList,sh:=mz P d }else none
structure Tab where
 ts:List (Nat×TI)
 eqs:List (Nat×List (Nat×Nat)):=[]
 pls:List (Nat×List (Nat×Nat)):=[]
 io:List (Nat×Nat):=[]
 ars:List (Nat×Nat):=[]
 addr:List (Nat×List Nat):=[]
 gv:List Nat:=[]
 pw:List (Nat×List Nat):=[]
 ou:List Nat:=[]
def iv (P:Program)(t:TypeId):Option (List (Nat×Nat)):=
 match P.underlying t with
 |some (.struct fs)=>fs.toList.mapM (fun f=>(P.info? f.type).map fun i=>(f.offset,i.size))
 |_=>none
def vI (P:Program)(t:TypeId):Option (List (Nat×Nat)):=
 match P.underlying t with
 | some (.struct fs) => if P.stoodInHeld t = false ∧ P.eqGuardType P.depth t = false ∧ fs.all (fun f => (f.name == "_") == false) = true then some (fs.toList.map fun f => (f.offset, f.type)) else none
 |_=>none
def xR (P:Program)(t:TypeId):Option Nat :=
 match P.underlying t with
 |some (.array n e)=>match P.underlying e,P.info? e with|some (.pointer _),some i=>if i.size=1 then some n else none|_,_=>none
 |_=>none
def wD (P:Program)(f:FuncId)(offs:List Nat):Prop :=∀(b:Nat×Nat)(w:World),Calls P f #[.pointer (some ⟨b.1,b.2,none⟩)] w fun e w'=>e = .returned (.agg (offs.map fun o=>Value.pointer (some ⟨b.1,b.2+o,none⟩)).toArray)∧Grew w w'
structure ax (P:Program)(tab:Tab):Prop where
 ts:∀p∈tab.ts,fU P p.1=some p.2
 eqs:∀p∈tab.eqs,vI P p.1=some p.2
 pls:∀p∈tab.pls,iv P p.1=some p.2
 mixed:P.follows .mixedOrders=true
 ars:∀p∈tab.ars,xR P p.1=some p.2
 addr:∀p∈tab.addr,wD P p.1 p.2
def Tab.ti (tab:Tab)(t:Nat):Option TI:=tab.ts.lookup t
def Tab.pl (tab:Tab)(t:Nat):Option (List (Nat×Nat)):=tab.pls.lookup t
def Tab.eq (tab:Tab)(t:Nat):Option (List (Nat×Nat)):=tab.eqs.lookup t
theorem bC {α:Type}:∀{l:List (Nat×α)}{t:Nat}{x:α},l.lookup t=some x→(t,x)∈l
 |[],_,_,h=>by simp at h
 |(u,y)::l,t,x,h=>by
  rw[List.lookup_cons]at h;split at h
  ·rename_i e;cases h;have:t=u:=by simpa using e
   subst this;exact List.mem_cons_self
  ·exact Dq _ (bC h)
variable  {P : Program}{tab : Tab}
theorem Tab.ok (h:ax P tab){t:Nat}{ti:TI}(e:tab.ti t=some ti):fU P t=some ti:=h.ts _ (bC e)
theorem Tab.okPl (h:ax P tab){t:Nat}{l:List (Nat×Nat)}(e:tab.pl t=some l):iv P t=some l:=h.pls _ (bC e)
theorem Tab.okEq (h:ax P tab){t:Nat}{l:List (Nat×Nat)}(e:tab.eq t=some l):vI P t=some l:=h.eqs _ (bC e)
section
variable  {t : Nat}{ti : TI}
theorem cO (h:fU P t=some ti):∃i d z,P.info? t=some i∧P.underlying t=some d∧i.zero=some z∧i.size=ti.size∧i.bytes=ti.bytes∧ti.zero=bG P t z.cells.toList∧ti.sh=mz P d∧z.cells.toList.all (·.oneCell')=true:=by
 unfold fU at h;cases hi:P.info? t with
 |none=>simp[hi]at h
 |some i =>
  cases hd:P.underlying t with
  |none=>simp[hi,hd]at h
  |some d =>
   cases hz:i.zero with
   |none=>simp[hi,hd,hz]at h
   |some z =>
    simp only[hi,hd,hz,BU]at h;split at h
    ·rename_i a;cases h;exact⟨i,d,z,rfl,rfl,hz,rfl,rfl,rfl,rfl,a⟩
    ·cases h
theorem fN (h:fU P t=some ti)(w:World):(sizeOf t).run P w = .ok ti.size w:=by obtain⟨i,d,z,a,c,e,b,f,g,j,k⟩:=cO h;simp[sizeOf,typeInfo,a,b]
theorem cL (h:fU P t=some ti){e:Nat}(hs:ti.sh = .slice e):P.underlying t=some (.slice e):=by obtain⟨i,d,z,c,b,f,g,j,k,a,l⟩:=cO h;rw[b];rw[hs]at a;cases d<;>simp only[mz]at a<;>first|(cases a;done)|(split at a<;>cases a;done)|(cases a;rfl)
theorem vy (h:fU P t=some ti)(hs:ti.sh = .bool):P.underlying t=some .bool:=by obtain⟨i,d,z,c,b,e,f,g,j,a,k⟩:=cO h;rw[b];rw[hs]at a;cases d<;>simp only[mz]at a<;>first|(cases a;done)|(split at a<;>cases a;done)|rfl
theorem l5 (h:fU P t=some ti)(hs:ti.sh = .str):P.underlying t=some .string:=by obtain⟨i,d,z,c,b,e,f,g,j,a,k⟩:=cO h;rw[b];rw[hs]at a;cases d<;>simp only[mz]at a<;>first|(cases a;done)|(split at a<;>cases a;done)|rfl
theorem qp (h:fU P t=some ti){k:IntKind}(hs:ti.sh = .int k):P.underlying t=some (.int k):=by obtain⟨i,d,z,c,b,e,f,g,j,a,l⟩:=cO h;rw[b];rw[hs]at a;cases d<;>simp only[mz]at a<;>first|(cases a;done)|(split at a<;>cases a;done)|(cases a;rfl)
theorem xJ (h:fU P t=some ti){offs:List Nat}(hs:ti.sh = .struct offs):
  ∃fs,P.underlying t=some (.struct fs)∧offs=fs.toList.map (·.offset)∧∀f∈fs,∃i,P.info? f.type=some i∧i.size≠0:=by
 obtain⟨i,d,z,e,c,g,j,k,l,b,m⟩:=cO h;rw[c];rw[hs]at b;cases d<;>simp only[mz]at b<;>first|(cases b;done)|skip
 split at b
 ·rename_i fs a;cases b;refine⟨fs,rfl,rfl,fun f hf=>?_⟩;rw[DK]at a;have:=a f hf;cases hi:P.info? f.type with
  |none=>simp[hi]at this
  |some i=>simp[hi]at this;exact⟨i,rfl,this⟩
 ·cases b
theorem ue (h:fU P t=some ti)(a:ti.sh ≠ .other)(w:World):(isAgg t).run P w = .ok ti.sh.agg w:=by obtain⟨i,d,z,e,b,f,g,j,k,c,l⟩:=cO h;rw[c]at a ⊢;unfold isAgg;cases d<;>simp[run_underlying b,mz,Sh.agg]<;>simp[mz]at a;split<;>simp_all
theorem l6 (h:fU P t=some ti)(w:World):∃z,(zeroValue t).run P w = .ok z w∧ti.zero=bG P t z.cells.toList∧z.cells.toList.all (·.oneCell')=true:=by obtain⟨i,d,z,a,f,b,g,j,c,k,e⟩:=cO h;exact⟨z,by simp[zeroValue,typeInfo,a,b],c,e⟩
end
end
section
def wr (op:BinOp)(k:IntKind)(a b:Int):Option Value :=
 match op with
 | .add=>some (.int k (k.wrap (a+b)))
 | .sub=>some (.int k (k.wrap (a-b)))
 | .mul=>some (.int k (k.wrap (a*b)))
 | .quo=>if b=0 then none else some (.int k (k.wrap (a.tdiv b)))
 | .rem=>if b=0 then none else some (.int k (a.tmod b))
 | .and=>some (.int k (k.wrap (BitVec.ofInt k.bits a &&& BitVec.ofInt k.bits b).toNat))
 | .or=>some (.int k (k.wrap (BitVec.ofInt k.bits a |||BitVec.ofInt k.bits b).toNat))
 | .xor=>some (.int k (k.wrap (BitVec.ofInt k.bits a ^^^ BitVec.ofInt k.bits b).toNat))
 | .eql=>some (.bool (a==b))
 | .neq=>some (.bool (a != b))
 | .lss=>some (.bool (decide (a<b)))
 | .leq=>some (.bool (decide (a≤b)))
 | .gtr=>some (.bool (decide (a>b)))
 | .geq=>some (.bool (decide (a≥b)))
 |_=>none
def shV (op:BinOp)(k:IntKind)(a b:Int):Option Value :=
 if b<0 then none else
 match op with
 | .shl=>some (.int k (k.wrap (a*2 ^ (min b.toNat k.bits))))
 | .shr=>some (.int k (a.fdiv (2 ^ (min b.toNat k.bits))))
 |_=>none
def xv:Nat:=4611686018427387904
def wz (op:BinOp)(a b:Ej):Option Value :=
 match op with
 | .add=>if a.size+b.size≤xv then some (.string (a++b))else none
 | .eql=>some (.bool (a.toList==b.toList))
 | .neq=>some (.bool (!(a.toList==b.toList)))
 | .lss=>some (.bool (Op.bytesLess a.toList b.toList))
 | .leq=>some (.bool (Op.bytesLess a.toList b.toList ||a.toList==b.toList))
 | .gtr=>some (.bool (!(Op.bytesLess a.toList b.toList ||a.toList==b.toList)))
 | .geq=>some (.bool (!Op.bytesLess a.toList b.toList))
 |_=>none
def eD (tab:Tab)(op:BinOp)(t:Nat)(x y:Value):Option Value :=
 match x,y with
 | .int k a,.int k' b =>
  match op with
  | .shl=>shV .shl k a b
  | .shr=>shV .shr k a b
  |op=>if k=k' then wr op k a b else none
 | .string a,.string b=>wz op a b
 | .bool a,.bool b =>
  match tab.ti t with
  |some ti=>if ti.sh = .bool then(match op with| .eql=>some (.bool (a==b))| .neq=>some (.bool (!(a==b)))|_=>none)else none
  |none=>none
 |_,_=>none
variable  {P : Program}{tab : Tab}
theorem yz {op:BinOp}{k:IntKind}{a b:Int}{z:Value}(t:TypeId)(w:World)(h:wr op k a b=some z):
  (binOp op t (.int k a) (.int k b)).run P w = .ok z w:=by
 unfold wr at h;cases op<;>simp only[Ck,reduceCtorEq]at h<;>try (subst h;simp[binOp,Op.intArith,Op.intBits,Op.intCmp];done)
 ·split at h
  ·cases h
  ·rename_i hb;cases h;simp[binOp,Op.intDiv,hb]
 ·split at h
  ·cases h
  ·rename_i hb;cases h;simp[binOp,Op.intDiv,hb]
theorem vw {op:BinOp}(c:op = .shl∨op = .shr){k k':IntKind}{a b:Int}{z:Value}(t:TypeId)(w:World)(h:shV op k a b=some z):
  (binOp op t (.int k a) (.int k' b)).run P w = .ok z w:=by
 unfold shV at h;split at h
 ·cases h
 ·rename_i hb;rcases c with rfl|rfl<;>simp only[Ck]at h<;>subst h<;>simp[binOp,Op.shift,hb]
theorem yF {op:BinOp}{a b:Ej}{z:Value}(t:TypeId)(w:World)(h:wz op a b=some z):
  (binOp op t (.string a) (.string b)).run P w = .ok z w:=by
 unfold wz at h;cases op<;>simp only[Ck,reduceCtorEq]at h<;>try (subst h;simp[binOp,Op.stringOp];done)
 split at h
 ·rename_i hs;cases h;simp[binOp,Op.stringOp];unfold xv at hs;omega
 ·cases h
theorem xT (ok:ax P tab){op:BinOp}{t:TypeId}{x y z:Value}(d e:Operand)(w:World)(h:eD tab op t x y=some z):
  (do eqGuard op t d e x y;binOp op t x y:Sem Value).run P w = .ok z w:=by
 unfold eD at h;split at h
 ·rename_i k a k' b;rw[eqGuard_at_int];split at h
  ·simpa using vw (.inl rfl) t w h
  ·simpa using vw (.inr rfl) t w h
  ·split at h
   ·rename_i f;subst f;simpa using yz t w h
   ·cases h
 ·rw[eqGuard_at_string];simpa using yF t w h
 ·rename_i a b;rw[eqGuard_at_bool];split at h
  ·rename_i ti c;split at h
   ·rename_i hs;have hb:=vy (Tab.ok ok c) hs;split at h
    ·cases h;simp[run_eql_bool w t a b hb]
    ·cases h;simp[run_neq_bool w t a b hb]
    ·cases h
   ·cases h
  ·cases h
 ·cases h
theorem xS {op:BinOp}{t:TypeId}{x y z:Value}(h:eD tab op t x y=some z):z.oneCell'=true:=by
 unfold eD wr shV wz at h;repeat' split at h
 all_goals first|(cases h;rfl)|(cases h;done)
def sg:Sh→Value→Value→Option Bool| .bool,.bool a,.bool b=>some (a==b)| .int k,.int c a,.int d b=>if c=k∧d=k then some (a==b)else none| .str,.string a,.string b=>some (a.toList==b.toList)|_,_,_=>none
def eG {δ:Type}(tab:Tab)(us c:List (T δ)):List (Nat×Nat)→Option Bool
 |[]=>some true
 |(off,d)::r =>
  match tab.ti d,us[off]?,c[off]? with
  |some ti,some (.v a),some (.v b)=>if ti.size=1∧ti.sh.agg=false then(sg ti.sh a b).bind fun q=>(eG tab us c r).map fun s=>q&&s else none
  |_,_,_=>none
def eqS {δ:Type}(tab:Tab)(op:BinOp)(t:Nat)(us a:List (T δ)):Option Value :=
 match op with
 | .eql=>((tab.eq t).bind (eG tab us a)).map fun b=>.bool b
 | .neq=>((tab.eq t).bind (eG tab us a)).map fun b=>.bool (!b)
 |_=>none
theorem wO {t:Nat}{ti:TI}(h:fU P t=some ti){a b:Value}{q:Bool}(e:sg ti.sh a b=some q)(d:Nat)(w:World):(Op.equalIn (d+1) t a b).run P w = .ok q w:=by
 unfold sg at e;split at e
 ·rename_i hs;cases e;exact run_equalIn_bool' w d t _ _ (vy h hs)
 ·rename_i k f a g b hs;split at e
  ·rename_i c;obtain⟨rfl,rfl⟩:=c;cases e;exact run_equalIn_int w d t _ _ _ _ (qp h hs)
  ·cases e
 ·rename_i hs;cases e;exact run_equalIn_string w d t _ _ (l5 h hs)
 ·cases e
theorem ot (ok:ax P tab){us l:List DT}{xs ys:Array Value}(C:∀(i:Nat)(u:DT)(y:Value),us[i]?=some u→xs[i]?=some y→VT u y)(D:∀(i:Nat)(u:DT)(y:Value),l[i]?=some u→ys[i]?=some y→VT u y)
  (F : us.length = xs.size) (G : l.length = ys.size) (d : Nat) (w : World) : ∀ (fs : List Field) {b : Bool}, (∀ f ∈ fs, (f.name == "_") = false) → eG tab us l (fs.map fun f => (f.offset, f.type)) = some b →
   (Op.eqFields (d+1) xs ys fs).run P w = .ok b w
 |[],b,m,e=>by cases e;simp[Op.eqFields]
 |f::fs,b,m,e=>by
  simp only[Cc,eG]at e;split at e
  case h_2=>cases e
  rename_i ti a c n o hv;split at e
  case isFalse=>cases e
  rename_i j;simp only[BT,BS]at e;obtain⟨q,p,s,H,rfl⟩:=e;have k:=Tab.ok ok n;have r:xs[f.offset]?=some a:=by
   have t:f.offset<us.length:=by
    rcases BY f.offset us.length with g|g
    ·exact g
    ·rw[BV g]at o;cases o
   have:=C _ _ _ o (Cs (by omega));rw[Cs (by omega),this.1]
  have v:ys[f.offset]?=some c:=by
   have t:f.offset<l.length:=by
    rcases BY f.offset l.length with g|g
    ·exact g
    ·rw[BV g]at hv;cases hv
   have:=D _ _ _ hv (Cs (by omega));rw[Cs (by omega),this.1]
  have hs:=fN k w;have I:ti.sh ≠ .other:=by intro h;rw[h]at p;simp[sg]at p
  have x:=ue k I w;rw[j.2]at x;have z:(part f.type xs f.offset).run P w = .ok a w:=by simp[part,hs,x,r,j.1]
  have A:(part f.type ys f.offset).run P w = .ok c w:=by simp[part,hs,x,v,j.1]
  have B : f.name ≠ "_" := by simpa using m f (by simp)
  have J:=ot ok C D F G d w fs (fun g K=>m g (by simp[K])) H;simp only[Op.eqFields,BZ B,Sem.run_bind,z,A,wO k p d w,Result.andThen_ok];cases q
  ·simp
  ·simpa using J
end
theorem Holds.getN {w:World}:∀(st:List (Nat×Nat)){t n:DT},Holds w t→getN t st=some n→Holds w n
 |[],t,n,h,a=>by cases a;exact h
 |(i,c)::st,t,n,h,a=>by
  cases t with
  |v x=>simp[Am.getN]at a
  |any=>simp[Am.getN]at a
  |s k d z rows =>
   simp only[Am.getN,BT]at a;obtain⟨u,⟨row,hi,b⟩,a⟩:=a;cases h with
   |e=>simp at hi
   |s _ _ _ _ h hsp g j f hb hcap hz hv hh=>exact Holds.getN st (hh i row c u hi b) a
theorem OwnT.getN {w:World}:∀(st:List (Nat×Nat)){t n:DT},OwnT w t→getN t st=some n→OwnT w n
 |[],t,n,h,a=>by cases a;exact h
 |(i,c)::st,t,n,h,a=>by
  cases t with
  |v x=>simp[Am.getN]at a
  |any=>simp[Am.getN]at a
  |s k d z rows =>
   simp only[Am.getN,BT]at a;obtain⟨u,⟨row,hi,b⟩,a⟩:=a;cases h with
   |nil=>simp at hi
   |s _ _ _ h hsp f g lo e hb hcap hroom hf hh=>exact OwnT.getN st (hh i row c u hi b) a
theorem lD:∀(st:List (Nat×Nat)){t n:DT},getN t st=some n→∀b∈bl n,b∈bl t
 |[],t,n,e=>by cases e;exact fun b hb=>hb
 |(i,c)::st,t,n,e=>by
  cases t with
  |v x=>simp[getN]at e
  |any=>simp[getN]at e
  |s k d z rows =>simp only[getN,BT]at e;obtain⟨u,⟨row,hi,a⟩,e⟩:=e;exact fun b hb=>ea hi a (lD st e b hb)
theorem km {w:World}{b:Nat}{c:Array Value}{e:TypeId}{f:Nat×Nat}(h:w.heap[b]?=some (.cells c e f))(o:Nat):w.cell? ⟨b,o,none⟩=c[o]?:=by simp[World.cell?,h]
section
variable  {δ β : Type}
def boxRange (D:St δ β)(h o n:Nat):Option (List (T δ)):=
 match D[h]? with
 |some (.box _ ts)=>if o+n≤ts.length then some ((ts.drop o).take n)else none
 |_=>none
def rowRange (D:St δ β)(h c:Nat)(st:List (Nat×Nat))(i o n:Nat):Option (List (T δ)):=
 match ah D h c with
 |some t=>if t.isOwn then
   match getN t st with
   |some (.s _ _ _ rows)=>(rows[i]?).bind fun row=>if o+n≤row.length then some ((row.drop o).take n)else none
   |_=>none
  else none
 |none=>none
end
theorem aO {D:DSt}{h c:Nat}{t:DT}(e:ah D h c=some t):∃s,D[h]?=some s∧s∈D∧t∈af s∧t∈rootsO s∧(t.isOwn=true→∀b∈bl t,b∈ownBl s):=by
 unfold ah at e;simp only[BT]at e;obtain⟨cs,⟨s,hs,hc⟩,ht⟩:=e;refine⟨s,hs,BR hs,?_⟩;have a:=BR ht;cases s with
 |one u=>cases hc;exact⟨a,a,fun d b hb=>by simp at a;subst a;simp[ownBl,ownR,d,hb]⟩
 |agg ts=>cases hc;exact⟨a,a,fun d b hb=>by simp only[ownBl,B5];exact⟨t,a,by simp[ownR,d,hb]⟩⟩
 |box f ts=>cases hc;exact⟨a,a,fun d b hb=>by simp only[ownBl,Cq,B5];exact .inr ⟨t,a,by simp[ownR,d,hb]⟩⟩
 |_=>cases hc
structure Cells (w:World)(b o:Nat)(cs:List DT):Prop where
 lies:∃c e f,w.heap[b]?=some (.cells c e f)∧∀(j:Nat)(t:DT),cs[j]?=some t→∃y,c[o+j]?=some y∧VT t y
 holds:∀t∈cs,Holds w t
theorem Inv.boxRange {cx:Cx}{D:DSt}{P:List (DT×Value)}{tm:Array Value}{w:World}(I:Inv cx D P tm w){h o n:Nat}{cs:List DT}(e:boxRange D h o n=some cs):
  ∃b ts,D[h]?=some (.box b ts)∧cs.length=n∧Cells w b.1 (b.2+o) cs∧(∀j,j<n→cs[j]?=ts[o+j]?)∧o+n≤ts.length:=by
 unfold Am.boxRange at e;split at e
 ·rename_i b ts hd;split at e
  ·rename_i l;cases e;have i:=I.mem _ (BR hd);obtain⟨c,e,f,hb,hv⟩:=i.2.2.1;have k:∀j,j<n→((ts.drop o).take n)[j]?=ts[o+j]?:=by intro j a;rw[CR,BZ a,CG]
   refine⟨b,ts,hd,by simp;omega,⟨⟨c,e,f,hb,fun j t a=>?_⟩,fun t m=>i.1 t ?_⟩,k,l⟩
   ·have d:j<n:=by
     rcases BY j n with g|g
     ·exact g
     ·rw[CR,Cd (by omega)]at a;cases a
    rw[k j d]at a;have:=hv _ t a;rw[←C2]at this;exact this
   ·exact CT (C6 m)
  ·cases e
 ·cases e
theorem Inv.rowRange {cx:Cx}{D:DSt}{P:List (DT×Value)}{tm:Array Value}{w:World}(I:Inv cx D P tm w){h c:Nat}{st:List (Nat×Nat)}{i o n:Nat}{cs:List DT}
  (e:rowRange D h c st i o n=some cs):
  ∃t k d z rows row,ah D h c=some t∧t.isOwn=true∧Holds w t∧OwnT w t∧getN t st=some (.s k d z rows)∧rows[i]?=some row∧cs.length=n∧o+n≤row.length ∧
   Cells w d.b (d.o+i*z+o) cs∧(∀j,j<n→cs[j]?=row[o+j]?):=by
 unfold Am.rowRange at e;split at e
 ·rename_i t v;split at e
  ·rename_i x;split at e
   ·rename_i k d z rows y;simp only[BT]at e;obtain⟨row,hi,e⟩:=e;split at e
    ·rename_i C;cases e;obtain⟨s,hs,l,A,m,_⟩:=aO v;have p:=I.mem s l;have hh:=Holds.getN st (p.1 t A) y;have B:∀j,j<n→((row.drop o).take n)[j]?=row[o+j]?:=by intro j a;rw[CR,BZ a,CG]
     refine⟨t,k,d,z,rows,row,v,x,p.1 t A,p.2.1 t m x,y,hi,by simp;omega,C,?_,B⟩;cases hh with
     |e=>simp at hi
     |s _ _ _ _ h hsp F G f hb hcap hz hv hh =>
      refine⟨⟨F,G,f,hb,fun j u a=>?_⟩,fun u H=>?_⟩
      ·have q:j<n:=by
        rcases BY j n with g|g
        ·exact g
        ·rw[CR,Cd (by omega)]at a;cases a
       rw[B j q]at a;have:=hv i row _ u hi a;rw[←C2]at this;exact this
      ·have r:=CT (C6 H);obtain⟨j,a⟩:=BX r;exact hh i row j u hi a
    ·cases e
   ·cases e
  ·cases e
 ·cases e
theorem Cells.load {P:Program}{t:TypeId}{ti:TI}(h:fU P t=some ti)(q:ti.sh ≠ .other){w:World}{b o:Nat}{cs:List DT}(C:Cells w b o cs)(r:cs.length=ti.size)
  (m:ti.sh.agg=false→cs.length=1):
  ∃y,(Instr.loadAt t (.pointer (some ⟨b,o,none⟩))).run P w = .ok y w ∧
   (if ti.sh.agg then ∃ys:Array Value,y = .agg ys∧VCells cs ys.toList else ∃u,cs=[u]∧VT u y):=by
 obtain⟨c,e,f,hb,hv⟩:=C.lies;by_cases n:ti.sh.agg=true
 ·have hc:∀j,j<cs.length→∃y,c[o+j]?=some y∧∀u,cs[j]?=some u→VT u y:=by intro j d;obtain⟨y,m,s⟩:=hv j cs[j] (BW d);exact⟨y,m,fun u k=>by rw[BW d]at k;cases k;exact s⟩
  let f':Nat→Value:=fun j=>(c[o+j]?).getD undef
  have hf:∀j,j<ti.size→w.cell? (Addr.add ⟨b,o,none⟩ j)=some (f' j):=by
   intro j d;obtain⟨y,a,_⟩:=hc j (by omega);have:Addr.add ⟨b,o,none⟩ j=⟨b,o+j,none⟩:=by unfold Addr.add;split<;>simp_all
   rw[this,km hb];simp[f',a]
  refine⟨.agg ((List.range ti.size).map f').toArray,?_,?_⟩
  rotate_left
  ·rw[BZ n];refine⟨_,rfl,by simpa using r,fun j u y d a=>?_⟩;simp only[B6,BS]at a;obtain⟨x,l,rfl⟩:=a;have p:j<cs.length:=by
    rcases BY j cs.length with g|g
    ·exact g
    ·rw[BV g]at d;cases d
   rw[C0 (by omega)]at l;cases l;obtain⟨y,a,k⟩:=hc j p;simp only[f',a,DJ];exact k u d
  ·have:=run_loadCells (P:=P) w ⟨b,o,none⟩ ti.size f' hf;simp[Instr.loadAt,loadVar,Instr.sureAddr,ue h q,n,fN h,this]
 ·have i:ti.sh.agg=false:=by simpa using n
  have v:=m i;obtain⟨u,rfl⟩:∃u,cs=[u]:=List.length_eq_one_iff.1 v;obtain⟨y,a,k⟩:=hv 0 u rfl;refine⟨y,?_,?_⟩
  ·have:w.cell? ⟨b,o,none⟩=some y:=by rw[km hb];simpa using a
   simp[Instr.loadAt,loadVar,Instr.sureAddr,ue h q,i,run_load,this]
  ·rw[Cd (by simp[i])];exact⟨u,rfl,k⟩
section
section
variable  {δ β : Type}
def d9 (D:St δ β)(ti:TI):Sl δ β→Option (Sl δ β)
 | .pb h o=>(boxRange D h o ti.size).bind fun cs =>
  if ti.sh.agg then some (.agg (cs.mapIdx fun j u=>u.kd (.lent h (o+j) true)))else
  match cs with
  |[.s .own _ _ rows]=>some (.al h o [] 0 rows.length)
  |[u]=>some (.one u)
  |_=>none
 | .pe h c st i o=>(rowRange D h c st i o ti.size).bind fun cs =>
  if ti.sh.agg then some (.agg (cs.map (T.view (.lent h c false))))else
  match cs with
  |[.s .own _ _ rows]=>some (.al h c (st++[(i,o)]) 0 rows.length)
  |[u]=>some (.one (u.view (.lent h c false)))
  |_=>none
 | .im k _ ts o =>
  if o+ti.size≤ts.length then
   if ti.sh.agg then some (.agg (((ts.drop o).take ti.size).map (T.view k.unr)))else
   match(ts.drop o).take ti.size with
   |[u]=>some (.one (u.view k.unr))
   |_=>none
  else none
 |_=>none
end
theorem ki {k:Kd}{t:DT}{y:Value}:VT (t.view k) y↔VT t y:=by cases t<;>exact .rfl
theorem gA {w:World}{k:Kd}{t:DT}(h:Holds w t):Holds w (t.view k):=by
 cases t with
 |v x=>exact h
 |any=>exact h
 |s k' d z r=>exact kL h
theorem yQ (k:Kd)(t:DT):bl (t.view k)=bl t:=by
 cases t with
 |v x=>rfl
 |any=>rfl
 |s k' d z r=>simp only[T.view,bv]
theorem iY {k:Kd}(a:k ≠ .own)(t:DT):(t.view k).isOwn=false:=by
 cases t with
 |v x=>rfl
 |any=>rfl
 |s k' d z r=>cases k<;>simp_all[T.view,T.isOwn]
theorem lz {cx:Cx}{D:DSt}{t:DT}(h:∀x∈bl t,cx.far x):aB cx D (t.view .far):=by
 cases t with
 |v x=>trivial
 |any=>trivial
 |s k' d z r=>exact fun x a=>h x (by simp only[bv]at a ⊢;exact a)
theorem kN {cx:Cx}{D:DSt}{b c:Nat}{a t:DT}(hc:ah D b c=some a)(f:a.isOwn=true)(h:∀x∈bl t,x∈bl a):aB cx D (t.view (.lent b c false)):=by
 cases t with
 |v x=>trivial
 |any=>trivial
 |s k' d z r=>exact .inr ⟨a,hc,f,fun x e=>h x (by simp only[bv]at e ⊢;exact e),fun h=>by cases h⟩
theorem lA {cx:Cx}{D:DSt}{a c:Nat}{t:DT}(e:D.length≤a)(h:∀x∈bl t,cx.keep x):aB cx D (t.view (.lent a c false)):=by
 cases t with
 |v x=>trivial
 |any=>trivial
 |s k' d z r=>exact .inl ⟨e,rfl,fun x b=>h x (by simp only[bv]at b ⊢;exact b)⟩
theorem uh {cx:Cx}{D:DSt}{k:Kd}{b:Nat}{ts:List DT}(h:iK cx D k b ts){t:DT}(a:t∈ts):aB cx D (t.view k.unr):=by
 cases k with
 |own=>exact h.elim
 |far=>exact lz (h.2 t a)
 |lent i c j =>
  rcases h with⟨d,e,f⟩|⟨l,d,e,f,g⟩
  ·exact lA d (f t a)
  ·exact kN d e (g t a)
theorem md {ts:List DT}{cs:List Value}(f:Nat→DT→DT)(hf:∀i t y,VT t y→VT (f i t) y)(h:VCells ts cs):VCells (ts.mapIdx f) cs:=by refine⟨by simpa using h.1,fun i t y hi a=>?_⟩;rw[Dg,BS]at hi;obtain⟨t',hi,rfl⟩:=hi;exact hf _ _ _ (h.2 i t' y hi a)
theorem nB {α γ:Type}(f:α→γ)(l:List α):l.mapIdx (fun _ x=>f x)=l.map f:=by apply CP;intro i;simp
theorem Tells.agg {cx:Cx}{D:DSt}{w:World}{ts:List DT}{ys:Array Value}(hv:VCells ts ys.toList)(hh:∀t∈ts,Holds w t)(d:∀t∈ts,aB cx D t)(b:∀t∈ts,t.isOwn=false):
  Tells cx D w (.agg ts) (.agg ys):=
 ⟨⟨ys,rfl,hv⟩,⟨hh,(fun t a c=>by rw[b t a]at c;cases c),trivial⟩,d,by simp only[ownBl,Ca];exact fun t a=>bW (b t a)⟩
theorem Tells.one {cx:Cx}{D:DSt}{w:World}{t:DT}{y:Value}(hv:VT t y)(hh:Holds w t)(d:aB cx D t)(b:t.isOwn=false):Tells cx D w (.one t) y :=
 ⟨hv,⟨fun u a=>by simp[af]at a;subst a;exact hh,(fun u a c=>by simp[rootsO]at a;subst a;rw[b]at c;cases c),trivial⟩,
  fun u a=>by simp[af]at a;subst a;exact d,bW b⟩
theorem rm:∀(st:List (Nat×Nat)){t:DT}{k:Kd}{d:Dec}{z:Nat}{rows:List (List DT)}{i c:Nat}{row:List DT}{u:DT},
  getN t st=some (.s k d z rows)→rows[i]?=some row→row[c]?=some u→getN t (st++[(i,c)])=some u
 |[],t,k,d,z,rows,i,c,row,u,h,hi,a=>by cases h;simp[getN,hi,a]
 |(e,f)::st,t,k,d,z,rows,i,c,row,u,h,hi,a=>by
  cases t with
  |v x=>simp[getN]at h
  |any=>simp[getN]at h
  |s k' g j b =>simp only[getN,List.cons_append,BT]at h ⊢;obtain⟨v,hv,h⟩:=h;exact⟨v,hv,rm st h hi a⟩
variable  {P : Program}{tab : Tab}
theorem Tells.load {cx:Cx}{D:DSt}{Pd:List (DT×Value)}{tm:Array Value}{w:World}(I:Inv cx D Pd tm w){t:TypeId}{ti:TI}(h:fU P t=some ti)(J:ti.sh ≠ .other)
  {p s:DSl} {yp:Value} (O:Tells cx D w p yp) (e:d9 D ti p=some s):∃y,(Instr.loadAt t yp).run P w = .ok y w∧Tells cx D w s y:=by
 unfold d9 at e;split at e
 ·rename_i K o;obtain⟨b,ts,hb,M⟩:=O.val;simp only[BT]at e;obtain⟨cs,hr,e⟩:=e;obtain⟨b',ts',S,a,A,R,U⟩:=I.boxRange hr;rw[hb]at S;cases S;have l:∀(j:Nat)(u:DT),cs[j]?=some u→aB cx D (u.kd (.lent K (o+j) true)):=by
   intro j u hj;have B:j<ti.size:=by
    rcases BY j cs.length with g|g
    ·omega
    ·rw[BV g]at hj;cases hj
   rw[R j B]at hj;have hk:=I.kind _ (BR hb);have hc:ah D K (o+j)=some u:=by simp[ah,hb,ap,hj]
   have V:aB cx D u:=hk u (BR hj);cases u with
   |v x=>trivial
   |any=>trivial
   |s k d z r =>
    cases k with
    |own=>exact .inr ⟨_,hc,rfl,fun x hx=>(by simp only[bv]at hx ⊢;exact hx),fun _=>⟨_,_,rfl,rfl⟩⟩
    |far=>exact V
    |lent h c fl=>exact V
  split at e
  ·rename_i F;cases e;obtain⟨y,G,n⟩:=Cells.load h J A a (fun hf=>by rw[F]at hf;cases hf);rw[BZ F]at n;obtain⟨ys,rfl,n⟩:=n;refine⟨_,by rw[M];exact G,.agg (md _ (fun _ _ _=>vF.2) n) ?_ ?_ ?_⟩
   ·intro t m;simp only[CS]at m;obtain⟨i,hi,rfl⟩:=m;exact su (A.holds _ (Dt hi))
   ·intro t m;simp only[CS]at m;obtain⟨i,hi,rfl⟩:=m;exact l i _ (BW hi)
   ·intro t m;simp only[CS]at m;obtain⟨i,hi,rfl⟩:=m;exact jR _ _ _ _
  ·rename_i F;have Q:cs.length=1:=by split at e<;>first|rfl|cases e
   obtain⟨y,G,n⟩:=Cells.load h J A a (fun _=>Q);rw[Cd F]at n;obtain⟨u,rfl,n⟩:=n;refine⟨y,by rw[M];exact G,?_⟩;have hu:ts[o]?=some u:=by have:=R 0 (by simp at a;omega);simpa using this.symm
   have hm:=I.mem _ (BR hb);split at e
   ·rename_i d z rows q;cases q;cases e;refine⟨⟨d,z,rows.length,_,⟨.s .own d z rows,by simp[ah,hb,ap,hu],rfl,.own,rows,rfl,rfl⟩,by omega,n,?_,fun _=>Dec.addr_none (hm.2.1 (.s .own d z rows) (BR hu) rfl).sp⟩,
     ⟨fun t m=>by simp[af]at m,fun t m=>by simp[rootsO]at m,trivial⟩,fun t m=>by simp[af]at m,rfl⟩
    intro hc;have J:=hm.2.1 (.s .own d z rows) (BR hu) rfl;have hs:=J.sp;cases J with
    |nil d z h W F0=>omega
    |s d z rows K=>simp[Dec.addr,K,hs]
   ·rename_i X q;cases q;cases e;have F1:u.isOwn=false:=by
     cases u with
     |v x=>rfl
     |any=>rfl
     |s k d z r =>
      cases k with
      |own=>exact absurd rfl (X d z r)
      |_=>rfl
    exact .one n (A.holds _ (by simp)) (I.kind _ (BR hb) u (BR hu)) F1
   ·cases e
 ·rename_i K c st i o;obtain⟨d',z',n',hn,F6,M⟩:=O.val;simp only[BT]at e;obtain⟨cs,hr,e⟩:=e;obtain⟨t₀,k,d,z,rows,row,hc,Y,F7,F2,L,H,a,U,A,R⟩:=I.rowRange hr;have F3:d=d'∧z=z':=by obtain⟨t1,G,n,k1,C,h3,h4⟩:=hn;rw[hc]at G;cases G;rw[L]at h3;cases h3;exact⟨rfl,rfl⟩
  obtain⟨rfl,rfl⟩:=F3;have F4:∀(j:Nat)(u:DT),cs[j]?=some u→∀x∈bl u,x∈bl t₀:=by
   intro j u hj x hx;have B:j<ti.size:=by
    rcases BY j cs.length with g|g
    ·omega
    ·rw[BV g]at hj;cases hj
   rw[R j B]at hj;exact lD st L x (ea H hj hx)
  have N:∀(j:Nat)(u:DT),cs[j]?=some u→OwnT w u:=by
   intro j u hj;have B:j<ti.size:=by
    rcases BY j cs.length with g|g
    ·omega
    ·rw[BV g]at hj;cases hj
   rw[R j B]at hj;have:=OwnT.getN st F2 L;cases this with
   |nil=>simp at H
   |s _ _ _ h hsp c' e' lo F8 hb hcap hroom hf hh=>exact hh i row _ u H hj
  have l:∀(j:Nat)(u:DT),cs[j]?=some u→aB cx D (u.view (.lent K c false)):=fun j u hj=>kN hc Y (F4 j u hj)
  split at e
  ·rename_i F;cases e;obtain⟨y,G,n⟩:=Cells.load h J A a (fun hf=>by rw[F]at hf;cases hf);rw[BZ F]at n;obtain⟨ys,rfl,n⟩:=n;refine⟨_,by rw[M];exact G,.agg ?_ ?_ ?_ ?_⟩
   ·have:=md (fun _ u=>u.view (.lent K c false)) (fun _ _ _=>ki.2) n
    rwa [nB]at this
   ·intro t m;obtain⟨u,hu,rfl⟩:=B7.1 m;exact gA (A.holds _ hu)
   ·intro t m;obtain⟨u,hu,rfl⟩:=B7.1 m;obtain⟨j,hj⟩:=BX hu;exact l j u hj
   ·intro t m;obtain⟨u,hu,rfl⟩:=B7.1 m;exact iY (by simp) _
  ·rename_i F;have Q:cs.length=1:=by split at e<;>first|rfl|cases e
   obtain⟨y,G,n⟩:=Cells.load h J A a (fun _=>Q);rw[Cd F]at n;obtain⟨u,rfl,n⟩:=n;refine⟨y,by rw[M];exact G,?_⟩;have hu:row[o]?=some u:=by have:=R 0 (by simp at a;omega);simpa using this.symm
   split at e
   ·rename_i d1 z1 C q;cases q;cases e;refine⟨⟨d1,z1,C.length,_,⟨t₀,hc,Y,.own,C,rm st L H hu,rfl⟩,by omega,n,?_,fun _=>Dec.addr_none (N 0 _ rfl).sp⟩,
     ⟨fun t m=>by simp[af]at m,fun t m=>by simp[rootsO]at m,trivial⟩,fun t m=>by simp[af]at m,rfl⟩
    intro hcap;have J:=N 0 _ rfl;have hs:=J.sp;cases J with
    |nil d z h W F0=>omega
    |s d z rows K=>simp[Dec.addr,K,hs]
   ·rename_i X q;cases q;cases e;exact .one (ki.2 n) (gA (A.holds _ (by simp))) (l 0 _ rfl) (iY (by simp) _)
   ·cases e
 ·rename_i k b ts o;have M:yp = .pointer (some ⟨b.1,b.2+o,none⟩):=O.val;split at e
  ·rename_i U;have Z:k.unr ≠ .own:=by
    intro hk;cases k with
    |own=>exact O.kind
    |_=>cases hk
   have A:Cells w b.1 (b.2+o) ((ts.drop o).take ti.size):=by
    obtain⟨c',e',f,hb,hv⟩:=O.mem.2.2;refine⟨⟨c',e',f,hb,fun j t hj=>?_⟩,fun t m=>O.mem.1 t (CT (C6 m))⟩;have B:j<ti.size:=by
     rcases BY j ti.size with g|g
     ·exact g
     ·rw[CR,Cd (by omega)]at hj;cases hj
    rw[CR,BZ B,CG]at hj;have:=hv _ t hj;rw[←C2]at this;exact this
   have a:((ts.drop o).take ti.size).length=ti.size:=by simp;omega
   have l:∀u∈(ts.drop o).take ti.size,aB cx D (u.view k.unr):=fun u hu =>uh O.kind (CT (C6 hu))
   split at e
   ·rename_i F;cases e;obtain⟨y,G,n⟩:=Cells.load h J A a (fun hf=>by rw[F]at hf;cases hf);rw[BZ F]at n;obtain⟨ys,rfl,n⟩:=n;refine⟨_,by rw[M];exact G,.agg ?_ ?_ ?_ ?_⟩
    ·have:=md (fun _ u=>u.view k.unr) (fun _ _ _=>ki.2) n
     rwa [nB]at this
    ·intro t m;obtain⟨u,hu,rfl⟩:=B7.1 m;exact gA (A.holds _ hu)
    ·intro t m;obtain⟨u,hu,rfl⟩:=B7.1 m;exact l u hu
    ·intro t m;obtain⟨u,hu,rfl⟩:=B7.1 m;exact iY Z _
   ·rename_i F;split at e
    ·rename_i u q;cases e;rw[q]at A a l;obtain⟨y,G,n⟩:=Cells.load h J A a (fun _=>rfl);rw[Cd F]at n;obtain⟨u',F5,n⟩:=n;cases F5;exact⟨y,by rw[M];exact G,.one (ki.2 n) (gA (A.holds _ (by simp))) (l _ (by simp)) (iY Z _)⟩
    ·cases e
  ·cases e
 ·cases e
end
section
structure Mk (δ β:Type) where
 nil:δ
 win:δ→Nat→Nat→δ
 at_:δ→Nat→Nat→β
 ptr:β→δ
def mkD:Mk Dec (Nat×Nat) where
 nil:=nilD
 win d l z:={ d with o:=if d.cap=l then d.o else d.o+l*z,cap:=d.cap-l }
 at_ d i z:=(d.b,d.o+i*z)
 ptr b:=⟨b.1,b.2,1,false,none⟩
def mkU:Mk Unit Unit where
 nil:=()
 win _ _ _:=()
 at_ _ _ _:=()
 ptr _:=()
section
variable  {δ β : Type}
def intOfSl:Sl δ β→Option Int| .one (.v (.int _ n))=>some n|_=>none
def i6 (D:St δ β)(h c:Nat)(st:List (Nat×Nat)):Option Nat :=
 match bg D h c st with
 |some (.s _ _ z _)=>some z
 |_=>none
def fL (M:Mk δ β)(D:St δ β)(tab:Tab)(t:Nat)(x:Sl δ β)(lo hi:Option Int):Option (Sl δ β):=
 match x with
 | .one (.v (.string s))=>
  if((tab.ti t).map (·.sh))=some .str then
   if 0≤lo.getD 0∧lo.getD 0≤hi.getD s.size∧hi.getD s.size≤(s.size:Int)then some (.one (.v (.string (s.extract (lo.getD 0).toNat (hi.getD s.size).toNat))))else none
  else none
 | .one (.s k d z rows)=>
  if k = .own then none else
  match tab.ti t with
  |some ⟨_,_,_,.slice e⟩=>
   if((tab.ti e).map (·.size))=some z then
    if 0≤lo.getD 0∧lo.getD 0≤hi.getD rows.length∧hi.getD rows.length≤(rows.length:Int)then
     some (.one (.s k.unr (M.win d (lo.getD 0).toNat z) z ((rows.drop (lo.getD 0).toNat).take ((hi.getD rows.length).toNat-(lo.getD 0).toNat))))else none
   else none
  |_=>none
 | .al h c st l len =>
  match tab.ti t with
  |some ⟨_,_,_,.slice e⟩=>
   if((tab.ti e).map (·.size))=i6 D h c st then
    if 0≤lo.getD 0∧lo.getD 0≤hi.getD len∧hi.getD len≤(len:Int)then
     some (.al h c st (l+(lo.getD 0).toNat) ((hi.getD len).toNat-(lo.getD 0).toNat))else none
   else none
  |_=>none
 |_=>none
end
abbrev bV (lo:Option (IntKind×Int)):Option Value:=lo.map fun p=>Value.int p.1 p.2
theorem my {P:Program}(w:World)(b:Bool)(len cap:Nat)(lo hi:Option (IntKind×Int))(hc:len≤cap)
  (h:0≤(lo.map Prod.snd).getD 0∧(lo.map Prod.snd).getD 0≤(hi.map Prod.snd).getD (len:Int)∧(hi.map Prod.snd).getD (len:Int)≤(cap:Int)):
  (Instr.sliceBounds b len cap (bV lo) (bV hi) none).run P w = .ok (((lo.map Prod.snd).getD 0).toNat,((hi.map Prod.snd).getD (len:Int)).toNat,cap) w:=by
 obtain⟨d,a,c⟩:=h;cases lo with
 |none =>
  cases hi with
  |none=>simp[Instr.sliceBounds]
  |some p =>simp at a c;simp[Instr.sliceBounds,run_sliceBound w p.1 p.2 cap _ a c]
 |some q =>
  cases hi with
  |none =>simp at d a c;simp[Instr.sliceBounds,run_sliceBound w q.1 q.2 len _ d a]
  |some p =>simp at d a c;simp[Instr.sliceBounds,run_sliceBound w p.1 p.2 cap _ (by omega) c,run_sliceBound w q.1 q.2 p.2.toNat _ d (by omega)]
theorem zk (d:Dec)(z l:Nat)(hs:d.sp=none∨l=0):
  (if d.cap=l then d.addr else d.addr.map (·.add (l*z)))=(mkD.win d l z).addr:=by
 rcases hs with hs|hs
 ·rw[Dec.addr_none hs,Dec.addr_none (d:=mkD.win d l z) (by simpa[mkD]using hs)];simp only[mkD];by_cases a:d.nil=true
  ·simp[a]
  ·simp only[a];by_cases hc:d.cap=l
   ·simp[hc]
   ·simp only[hc,CD,Ch,BQ,Ck];unfold Addr.add;split
    ·rename_i b;simp[b]
    ·rfl
 ·subst hs;have b:(mkD.win d 0 z).addr=d.addr:=by unfold Dec.addr mkD;simp
  rw[b];cases d.addr<;>simp[Addr.add]
theorem yN {tab:Tab}{t:Nat}{s:Sh}(h:((tab.ti t).map (·.sh))=some s):∃ti,tab.ti t=some ti∧ti.sh=s:=by
 cases e:tab.ti t with
 |none=>rw[e]at h;cases h
 |some ti=>rw[e]at h;cases h;exact⟨ti,rfl,rfl⟩
theorem kZ {tab:Tab}{t:Nat}{n:Nat}(h:((tab.ti t).map (·.size))=some n):∃ti,tab.ti t=some ti∧ti.size=n:=by
 cases e:tab.ti t with
 |none=>rw[e]at h;cases h
 |some ti=>rw[e]at h;cases h;exact⟨ti,rfl,rfl⟩
theorem Holds.cap {w:World}{k:Kd}{d:Dec}{z:Nat}{rows:List (List DT)}(h:Holds w (.s k d z rows)):rows.length≤d.cap:=by
 cases h with
 |e=>simp
 |s _ _ _ _ h hsp c e f hb hcap hz hv hh=>exact hcap
theorem Holds.win {w:World}{k:Kd}{d:Dec}{z:Nat}{rows:List (List DT)}(h:Holds w (.s k d z rows))(l n:Nat)(r:l+n≤rows.length):
  Holds w (.s k (mkD.win d l z) z ((rows.drop l).take n)):=by
 cases h with
 |e=>simp;exact .e _ _ _
 |s _ _ _ _ h hsp c e f hb hcap hz hv hh =>
  have a:∀(i:Nat)(row:List DT),((rows.drop l).take n)[i]?=some row→rows[l+i]?=some row∧i<n:=by
   intro i row hi;rw[CR]at hi;split at hi
   ·rw[CG]at hi;exact⟨hi, ‹_›⟩
   ·cases hi
  refine .s _ _ _ _ (by simpa[mkD]using h) (by simpa[mkD]using hsp) c e f (by simpa[mkD]using hb) (by simp[mkD];omega) ?_ ?_ ?_
  ·intro i row hi;exact hz _ row (a i row hi).1
  ·intro i row j t hi b;obtain⟨g,o⟩:=a i row hi;obtain⟨y,p,q⟩:=hv _ row j t g b;refine⟨y,?_,q⟩;have m:¬d.cap=l:=by omega
   simp only[mkD,m,CD];rw[←p];congr 1;rw[Da];omega
  ·intro i row j t hi b;exact hh _ row j t (a i row hi).1 b
theorem pB {k:Kd}{d:Dec}{z:Nat}{rows:List (List DT)}{l n:Nat}{x:Nat}(h:x∈bl (.s k (mkD.win d l z) z ((rows.drop l).take n))):x∈bl (.s k d z rows):=by
 rw[bv]at h ⊢;simp only[Cm,B5]at h ⊢;rcases h with h|⟨row,a,h⟩
 ·exact .inl h
 ·exact .inr ⟨row,CT (C6 a),h⟩
variable  {P : Program}{tab : Tab}
theorem Inv.node {cx:Cx}{D:DSt}{j:List (DT×Value)}{tm:Array Value}{w:World}(I:Inv cx D j tm w){h c:Nat}{st:List (Nat×Nat)}{d:Dec}{z n:Nat}(l:b6 D h c st d z n):
  ∃t k rows,ah D h c=some t∧t.isOwn=true∧getN t st=some (.s k d z rows)∧rows.length=n∧Holds w (.s k d z rows)∧OwnT w (.s k d z rows):=by
 obtain⟨t,f,g,k,rows,a,m⟩:=l;obtain⟨s,hs,b,o,e,_⟩:=aO f;have i:=I.mem s b;exact⟨t,k,rows,f,g,a,m,Holds.getN st (i.1 t o) a,OwnT.getN st (i.2.1 t e g) a⟩
theorem Tells.slice (ok:ax P tab){cx:Cx}{D:DSt}{V:List (DT×Value)}{tm:Array Value}{w:World}(I:Inv cx D V tm w){t:TypeId}{x s:DSl}{C:Value}(f:Tells cx D w x C)
  (lo hi:Option (IntKind×Int)) (e:fL mkD D tab t x (lo.map Prod.snd) (hi.map Prod.snd)=some s):
  ∃y,(Instr.sliceAt t C (bV lo) (bV hi) none).run P w = .ok y w∧Tells cx D w s y:=by
 unfold fL at e;split at e
 ·rename_i str;split at e
  ·rename_i hs;obtain⟨ti,g,F⟩:=yN hs;have i:=l5 (Tab.ok ok g) F;split at e
   ·rename_i hb;cases e;have u:C = .string str:=f.val.1;subst u;refine⟨_,?_,.one_v _ rfl⟩;rw[run_sliceAt_string w t _ _ _ _ i];simp[Instr.slice,run_underlying i,my (P:=P) w false str.size str.size lo hi (Cz _) hb]
   ·cases e
  ·cases e
 ·rename_i k d z rows;split at e
  ·cases e
  rename_i G;split at e
  ·rename_i sz H W J g;have i:=cL (Tab.ok ok g) rfl;have b:P.elem t=J:=by simp[Program.elem,i]
   split at e
   ·rename_i hz;obtain⟨X,m,o⟩:=kZ hz;split at e
    ·rename_i hb;cases e;have K:=f.mem.1 (.s k d z rows) (by simp[af]);have hcap:=K.cap;have u:C = .slice d.addr rows.length d.cap:=f.val;have Y:(T.s k d z rows).isOwn=false:=by cases k<;>first|rfl|exact absurd rfl G
     have p:=my (P:=P) w true rows.length d.cap lo hi hcap ⟨hb.1,hb.2.1,Int.le_trans hb.2.2 (by omega)⟩;have q:=fN (Tab.ok ok m) w;obtain⟨Z,j,r⟩:=hb;refine⟨_,?_,.one (y := .slice (mkD.win d ((lo.map Prod.snd).getD 0).toNat z).addr
      ((rows.drop ((lo.map Prod.snd).getD 0).toNat).take (((hi.map Prod.snd).getD (rows.length:Int)).toNat-((lo.map Prod.snd).getD 0).toNat)).length (mkD.win d ((lo.map Prod.snd).getD 0).toNat z).cap) rfl (kL (K.win _ _ ?_)) ?_ ?_⟩
     ·rw[run_sliceAt_slice w t _ _ _ _ (by rw[b];exact i),u,run_slice_any w t _ _ _ (by rw[b];exact i),p];simp only[Result.andThen_ok,b,q,o];congr 1;unfold sliced;have:=zk d z ((lo.map Prod.snd).getD 0).toNat (by
       by_cases S:rows=[]
       ·subst S;have L:=j;have M:=r;simp only[Ef]at L M;right;omega
       ·exact .inl (K.sp S))
      rw[this];congr 1;simp only[List.length_take,List.length_drop];omega
     ·omega
     ·have v:=f.kind (.s k d z rows) (by simp[af]);cases k with
      |own=>exact absurd rfl G
      |far=>exact fun x f=>v x (pB f)
      |lent h' c fl =>
       rcases v with⟨j,r,A⟩|⟨t,j,r,A⟩
       ·exact .inl ⟨j,rfl,fun x f=>A x (pB f)⟩
       ·exact .inr ⟨t,j,r,fun x f=>A.1 x (pB f),fun h=>by cases h⟩
     ·cases k<;>first|rfl|exact absurd rfl G
    ·cases e
   ·cases e
  ·cases e
 ·rename_i h c st l len;split at e
  ·rename_i sz H W J g;have i:=cL (Tab.ok ok g) rfl;have b:P.elem t=J:=by simp[Program.elem,i]
   obtain⟨d,z,n,a,N,F0,u,ha,O⟩:=f.val;have Q:i6 D h c st=some z:=by obtain⟨t,j,r,k,rows,A,U⟩:=N;simp[i6,bg,j,A]
   rw[Q]at e;split at e
   ·rename_i hz;obtain⟨X,m,o⟩:=kZ hz;split at e
    ·rename_i hb;cases e;have q:=fN (Tab.ok ok m) w;have hcap:n≤d.cap:=by obtain⟨_,_,_,_,_,_,U,h5,_⟩:=I.node N;rw[←U];exact h5.cap
     have p:=my (P:=P) w true len (d.cap-l) lo hi (by omega) ⟨hb.1,hb.2.1,Int.le_trans hb.2.2 (by omega)⟩;obtain⟨Z,j,r⟩:=hb;refine⟨_,?_,⟨⟨d,z,n,(if d.cap-l=((lo.map Prod.snd).getD 0).toNat then a else a.map (·.add (((lo.map Prod.snd).getD 0).toNat*z))),N,?_,rfl,?_,?_⟩,⟨fun t B=>by simp[af]at B,fun t B=>by simp[rootsO]at B,trivial⟩,fun t B=>by simp[af]at B,rfl⟩⟩
     ·rw[run_sliceAt_slice w t _ _ _ _ (by rw[b];exact i),u,run_slice_any w t _ _ _ (by rw[b];exact i),p];simp only[Result.andThen_ok,b,q,o,sliced];congr 2;omega
     ·omega
     ·intro hc;rw[Cd (by omega),ha (by omega)];simp only[BQ,Ck];unfold Addr.add;split
      ·rename_i F1;simp only[Addr.mk.injEq,Du,Ei];rw[Da];omega
      ·simp only[Addr.mk.injEq,Du,Ei];rw[Da];omega
     ·intro F2;have hl:l=0:=by omega
      have R:((lo.map Prod.snd).getD 0).toNat=0:=by omega
      rw[R,O hl];split
      ·rfl
      ·split<;>simp[Addr.add]
    ·cases e
   ·cases e
  ·cases e
 ·cases e
end
section
section
variable  {δ β : Type}
def se (s:Ej)(i:Int):Int:=((s[i.toNat]?.map fun b=>(b.toNat:Int)).getD 0)
def dD (M:Mk δ β)(D:St δ β)(tab:Tab)(t:Nat)(x:Sl δ β)(i:Int):Option (Sl δ β):=
 match tab.ti t with
 |some ⟨_,_,_,.slice e⟩=>
  match x with
  | .one (.s k d z rows)=>
   if k = .own then none else
   if((tab.ti e).map (·.size))=some z then
    if 0≤i then(rows[i.toNat]?).map fun row=>.im k (M.at_ d i.toNat z) row 0 else none
   else none
  | .al h c st lo len =>
   if((tab.ti e).map (·.size))=i6 D h c st then
    if 0≤i∧i<(len:Int)then some (.pe h c st (lo+i.toNat) 0)else none
   else none
  |_=>none
 |_=>none
def fB (tab:Tab)(t:Nat)(x:Sl δ β)(f:Nat):Option (Sl δ β):=
 match tab.ti t with
 |some ⟨_,_,_,.struct offs⟩=>
  (offs[f]?).bind fun o =>
  match x with
  | .pb h off=>some (.pb h (off+o))
  | .pe h c st i off=>some (.pe h c st i (off+o))
  | .im k b ts off=>some (.im k b ts (off+o))
  |_=>none
 |_=>none
def mq (tab:Tab)(t:Nat)(x:Sl δ β):Option Int :=
 match tab.ti t with
 |some ⟨_,_,_,.slice _⟩=>
  match x with
  | .one (.s k _ _ rows)=>if k = .own then none else some rows.length
  | .al _ _ _ _ len=>some len
  |_=>none
 |some ⟨_,_,_,.str⟩=>
  match x with
  | .one (.v (.string s))=>some s.size
  |_=>none
 |_=>none
def qh:Sl δ β→Bool| .pb _ _=>true| .pe _ _ _ _ _=>true| .im _ _ _ _=>true|_=>false
def dK (nil:δ)(D:St δ β):Option Operand→Option (Option Int)
 |none=>some none
 |some x=>match opd nil D x with
  |some (.one (.v (.int _ n)))=>some (some n)
  |_=>none
def pQ (M:Mk δ β)(tab:Tab)(D:St δ β)(c:Call):Option (Sl δ β):=
 match c.callee,c.args.toList,c.argTypes.toList with
 | .builtin .len,[x],[t]=>(opd M.nil D x).bind fun s=>(mq tab t s).map fun n=>.one (.v (.int .i64 n))
 | .builtin .max,[x,y],_ =>
  match opd M.nil D x,opd M.nil D y with
  |some (.one (.v (.int k a))),some (.one (.v (.int _ b)))=>some (.one (.v (.int k (if b>a then b else a))))
  |_,_=>none
 | .builtin .min,[x,y],_ =>
  match opd M.nil D x,opd M.nil D y with
  |some (.one (.v (.int k a))),some (.one (.v (.int _ b)))=>some (.one (.v (.int k (if b<a then b else a))))
  |_,_=>none
 |_,_,_=>none
def aR (M:Mk δ β)(tab:Tab)(D:St δ β)(op:Op):Option (Sl δ β):=
 match op with
 | .move x=>opd M.nil D x
 | .assign x=>opd M.nil D x
 | .pick c a b =>
  match opd M.nil D c with
  |some (.one (.v (.bool true)))=>opd M.nil D a
  |some (.one (.v (.bool false)))=>opd M.nil D b
  |_=>none
 | .nilCheck x=>(opd M.nil D x).bind fun s=>if qh s then some s else none
 | .binOp op t x y _ =>
  match opd M.nil D x,opd M.nil D y with
  |some (.one (.v a)),some (.one (.v b))=>(eD tab op t a b).map fun z=>.one (.v z)
  |some (.agg us),some (.agg e)=>(eqS tab op t us e).map fun z=>.one (.v z)
  |_,_=>none
 | .unOp op _ x =>
  match opd M.nil D x with
  |some (.one (.v (.bool b)))=>(match op with| .not=>some (.one (.v (.bool !b)))|_=>none)
  |some (.one (.v (.int k n)))=>(match op with| .neg=>some (.one (.v (.int k (k.wrap (0-n)))))|_=>none)
  |_=>none
 | .convert d dst x =>
  match opd M.nil D x,tab.ti d,tab.ti dst with
  |some (.one (.v (.int _ n))),some _,some ⟨_,_,_,.int k⟩=>some (.one (.v (.int k (k.wrap n))))
  |_,_,_=>none
 | .load t x =>
  match opd M.nil D x,tab.ti t with
  |some p,some ti=>if ti.sh = .other then none else d9 D ti p
  |_,_=>none
 | .fieldAddr t x f=>(opd M.nil D x).bind fun p=>fB tab t p f
 | .indexAddr t x i =>
  match opd M.nil D x,opd M.nil D i with
  |some p,some (.one (.v (.int _ n)))=>dD M D tab t p n
  |_,_=>none
 | .index t x i =>
  match opd M.nil D x,opd M.nil D i with
  |some (.one (.v (.string s))),some (.one (.v (.int _ n)))=>
   if((tab.ti t).map (·.sh))=some .str then
    if 0≤n∧n<(s.size:Int)then some (.one (.v (.int .u8 (se s n))))else none
   else none
  |some (.clo (.arr offs) hs),some (.one (.v (.int _ n)))=>
   if 0≤n∧tab.ars.lookup t=some hs.length∧offs.length=hs.length then
    match hs[n.toNat]?,offs[n.toNat]? with
    |some h,some o=>some (.pb h o)
    |_,_=>none
   else none
  |_,_=>none
 | .slice t x lo hi none =>
  match opd M.nil D x,dK M.nil D lo,dK M.nil D hi with
  |some s,some l,some h=>fL M D tab t s l h
  |_,_,_=>none
 | .call c=>pQ M tab D c
 |_=>none
end
variable  {P : Program}{tab : Tab}
theorem Tells.indexAddr (ok:ax P tab){cx:Cx}{D:DSt}{V:List (DT×Value)}{tm:Array Value}{w:World}(I:Inv cx D V tm w){t:TypeId}{x s:DSl}{L:Value}(K:Tells cx D w x L)
  {k:IntKind} {i:Int} (e:dD mkD D tab t x i=some s):∃y,(Instr.indexAt t L (.int k i)).run P w = .ok y w∧Tells cx D w s y:=by
 unfold dD at e;split at e
 ·rename_i sz W ze X M;have N:=cL (Tab.ok ok M) rfl;have q:P.elem t=X:=by simp[Program.elem,N]
  split at e
  ·rename_i kd d z rows;split at e
   ·cases e
   rename_i Y;split at e
   ·rename_i hz;obtain⟨Z,v,A⟩:=kZ hz;split at e
    ·rename_i hi;rw[BS]at e;obtain⟨row,l,rfl⟩:=e;have B:=fN (Tab.ok ok v) w;have G:L = .slice d.addr rows.length d.cap:=K.val;have hH:=K.mem.1 (.s kd d z rows) (by simp[af]);have F0:i.toNat<rows.length:=by
      rcases BY i.toNat rows.length with g|g
      ·exact g
      ·rw[BV g]at l;cases l
     cases hH with
     |e=>simp at l
     |s _ _ _ _ h hsp c e f hb hcap F1 hv hh =>
      rw[Dec.addr_none hsp,h]at G;simp only[Ch,CD]at G;refine⟨.pointer (some ⟨d.b,d.o+i.toNat*z,none⟩),?_,⟨rfl,⟨?_,?_,?_⟩,?_,rfl⟩⟩
      ·rw[G,run_indexAt_slice w t _ _ _ _ _ (by rw[q];exact N),BZ ⟨hi,by omega⟩,q,B];simp only[Result.andThen_ok,A];unfold Addr.add;split
       ·rename_i O;simp[O]
       ·rfl
      ·intro u m;obtain⟨j,r⟩:=BX m;exact hh _ row j u l r
      ·intro u m ho;simp[rootsO]at m
      ·exact⟨c,e,f,hb,fun j u r=>hv _ row j u l r⟩
      ·have C:=K.kind (.s kd d z rows) (by simp[af]);cases kd with
       |own=>exact absurd rfl Y
       |far=>exact⟨C d.b (en h),fun u m x p=>by obtain⟨j,r⟩:=BX m;exact C x (ea l r p)⟩
       |lent h' c' fl =>
        rcases C with⟨H,Q,F⟩|⟨t,H,Q,F,F2⟩
        ·exact .inl ⟨H,F _ (en h),fun u m x p=>by obtain⟨j,r⟩:=BX m;exact F x (ea l r p)⟩
        ·exact .inr ⟨t,H,Q,F _ (en h),fun u m x p=>by obtain⟨j,r⟩:=BX m;exact F x (ea l r p)⟩
    ·cases e
   ·cases e
  ·rename_i h c st lo len;obtain⟨d,z,n,a,R,F3,G,ha,F4⟩:=K.val;have S:i6 D h c st=some z:=by obtain⟨t,H,Q,k,rows,F,U⟩:=R;simp[i6,bg,H,F]
   rw[S]at e;split at e
   ·rename_i hz;obtain⟨Z,v,A⟩:=kZ hz;split at e
    ·rename_i hi;cases e;have B:=fN (Tab.ok ok v) w;have hcap:n≤d.cap:=by obtain⟨_,_,_,_,_,_,U,h5,_⟩:=I.node R;rw[←U];exact h5.cap
     rw[ha (by omega)]at G;refine⟨.pointer (some ⟨d.b,d.o+(lo+i.toNat)*z,none⟩),?_,⟨⟨d,z,n,R,by omega,rfl⟩,⟨fun t J=>by simp[af]at J,fun t J=>by simp[rootsO]at J,trivial⟩,fun t J=>by simp[af]at J,rfl⟩⟩;rw[G,run_indexAt_slice w t _ _ _ _ _ (by rw[q];exact N),BZ ⟨hi.1,by omega⟩,q,B];simp only[Result.andThen_ok,A];unfold Addr.add;split
     ·rename_i O;rw[Da,O];rfl
     ·rw[Da,C2]
    ·cases e
   ·cases e
  ·cases e
 ·cases e
end
section
variable  {P : Program}{tab : Tab}
theorem Tells.fieldAddr (ok:ax P tab){cx:Cx}{D:DSt}{w:World}{t:TypeId}{x s:DSl}{p:Value}(a:Tells cx D w x p){f:Nat}
  (e:fB tab t x f=some s):∃y,(Instr.fieldAt t p f).run P w = .ok y w∧Tells cx D w s y:=by
 unfold fB at e;split at e
 ·rename_i sz A F offs q;obtain⟨fs,B,c,r⟩:=xJ (Tab.ok ok q) rfl;simp only[BT]at e;obtain⟨o,v,e⟩:=e;rw[c,B6,BS]at v;obtain⟨h,hfl,rfl⟩:=v;obtain⟨i,hi,u⟩:=r h (by have:=BR hfl;simpa using this);have g:∀(b off:Nat),(Instr.fieldAt t (.pointer (some ⟨b,off,none⟩)) f).run P w = .ok (.pointer (some ⟨b,off+h.offset,none⟩)) w:=by
   intro b off;have j:fs[f]?=some h:=by simpa using hfl
   have:Addr.add ⟨b,off,none⟩ h.offset=⟨b,off+h.offset,none⟩:=by unfold Addr.add;split<;>simp_all
   simp[Instr.fieldAt,run_underlying B,j,Instr.sureAddr,fieldPlace,sizeOf,typeInfo,hi,u,this]
  split at e
  ·cases e;obtain⟨b,ts,hb,l⟩:=a.val;exact⟨_,by rw[l];exact g _ _,⟨⟨b,ts,hb,by rw[C2]⟩,a.mem,a.kind,rfl⟩⟩
  ·cases e;obtain⟨d,z,n,C,m,l⟩:=a.val;exact⟨_,by rw[l];exact g _ _,⟨⟨d,z,n,C,m,by rw[C2]⟩,a.mem,a.kind,rfl⟩⟩
  ·rename_i k b ts off;cases e;have l:p = .pointer (some ⟨b.1,b.2+off,none⟩):=a.val;exact⟨_,by rw[l];exact g _ _,⟨by show _=_;rw[C2],a.mem,a.kind,rfl⟩⟩
  ·cases e
 ·cases e
theorem Tells.len (ok:ax P tab){cx:Cx}{D:DSt}{w:World}{t:TypeId}{x:DSl}{i:Value}(h:Tells cx D w x i){n:Int}
  (e:mq tab t x=some n) (ty:TypeId):(Builtin.len_ #[t] ty #[i]).run P w = .ok (.int .i64 n) w:=by
 unfold mq at e;split at e
 ·rename_i sz j o k b;have f:=cL (Tab.ok ok b) rfl;have g:P.elem t=k:=by simp[Program.elem,f]
  split at e
  ·split at e
   ·cases e
   ·cases e;have c:=h.val;simp only[VS,VT]at c;rw[c,run_len_slice w t ty _ _ _ (by rw[g];exact f)];rfl
  ·cases e;obtain⟨d,z,n,a,p,l,c,q,m⟩:=h.val;rw[c,run_len_slice w t ty _ _ _ (by rw[g];exact f)];rfl
  ·cases e
 ·rename_i b;have f:=l5 (Tab.ok ok b) rfl;split at e
  ·cases e;have c:=h.val.1;rw[c,run_len_string w t ty _ f];rfl
  ·cases e
 ·cases e
theorem zd {cx:Cx}{D:DSt}{w:World}{s:DSl}{y:Value}(h:Tells cx D w s y)(e:qh s=true):∃a,y = .pointer (some a):=by
 cases s<;>simp[qh]at e
 ·obtain⟨b,ts,_,c⟩:=h.val;exact⟨_,c⟩
 ·obtain⟨d,z,n,_,_,c⟩:=h.val;exact⟨_,c⟩
 ·exact⟨_,h.val⟩
theorem oF {cx:Cx}{D:DSt}{b:List (DT×Value)}{a:Act}{w:World}(I:Inv cx D b a.tmps w){x:Option Operand}{n:Option Int}(h:dK nilD D x=some n):
  ∃p:Option (IntKind×Int),n=p.map Prod.snd∧x.map a.eval=bV p:=by
 unfold dK at h;split at h
 ·cases h;exact⟨none,rfl,rfl⟩
 ·rename_i x;split at h
  ·rename_i k n' e;cases h;have:=(I.opd e).val.1;exact⟨some (k,n'),rfl,by simp only[BQ];rw[show a.eval x=_ from this]⟩
  ·cases h
theorem yR (ok:ax P tab){op:BinOp}{t:Nat}{us k:List DT}{xs ys:Array Value}(p:VCells us xs.toList)(q:VCells k ys.toList){z:Value}(e:eqS tab op t us k=some z)(x y:Operand)(w:World):
  (do eqGuard op t x y (.agg xs) (.agg ys);binOp op t (.agg xs) (.agg ys):Sem Value).run P w = .ok z w∧z.oneCell'=true:=by
 have g:∀{b:Bool},(tab.eq t).bind (eG tab us k)=some b→(∀a,(eqGuard a t x y (.agg xs) (.agg ys)).run P w = .ok () w)∧(Op.equalIn 10000 t (.agg xs) (.agg ys)).run P w = .ok b w:=by
  intro b h;rw[BT]at h;obtain⟨l,j,s⟩:=h;have d:=Tab.okEq ok j;unfold vI at d;split at d
  ·rename_i fs r;split at d
   ·rename_i hc;cases d;refine⟨fun a=>run_eqGuard_agg w a t x y xs ys hc.2.1,?_⟩;have hf:P.fieldsOf t=fs:=by simp[Program.fieldsOf,r]
    rw[run_equalIn_struct (P:=P) w 9999 t xs ys (by rw[hf];exact r) hc.1,hf];have v : ∀ f ∈ fs.toList, (f.name == "_") = false := by intro f m;have:=hc.2.2;rw[DK]at this;have:=this f (by simpa using m);simpa using this
    exact ot ok (fun i u y hi c=>p.2 i u y hi (by simpa using c)) (fun i u y hi c=>q.2 i u y hi (by simpa using c)) (by simpa using p.1) (by simpa using q.1) 9998 w fs.toList v s
   ·cases d
  ·cases d
 unfold eqS at e;split at e
 ·rw[BS]at e;obtain⟨b,j,rfl⟩:=e;obtain⟨n,o⟩:=g j;refine⟨?_,rfl⟩;simp only[Sem.run_bind,n,Result.andThen_ok];rw[run_eql_struct,o];rfl
 ·rw[BS]at e;obtain⟨b,j,rfl⟩:=e;obtain⟨n,o⟩:=g j;refine⟨?_,rfl⟩;simp only[Sem.run_bind,n,Result.andThen_ok];rw[run_neq_struct,o];rfl
 ·cases e
theorem Tells.indexArr {P:Program}{tab:Tab}(ok:ax P tab){cx:Cx}{D:DSt}{w:World}{t:TypeId}{offs hs:List Nat}{q:Value}(r:Tells cx D w (.clo (.arr offs) hs) q){k:IntKind}{n:Int}(s:0≤n)
  (v:tab.ars.lookup t=some hs.length) (F:offs.length=hs.length) {h o:Nat} (hh:hs[n.toNat]?=some h) (x:offs[n.toNat]?=some o):
  ∃y,(Instr.index t q (.int k n)).run P w = .ok y w∧Tells cx D w (.pb h o) y:=by
 have a:=ok.ars _ (bC v);obtain⟨c,G,z,A⟩:=r.val;have B:n.toNat<hs.length:=by
  rcases BY n.toNat hs.length with g|g
  ·exact g
  ·rw[BV g]at hh;cases hh
 have hb:c[n.toNat]?=some c[n.toNat]:=BW (by omega);obtain⟨ts,C⟩:=z _ _ _ hh hb;unfold xR at a;split at a
 case h_2=>cases a
 rename_i len e d;split at a
 case h_2=>cases a
 rename_i pe i j l;split at a
 case isFalse=>cases a
 rename_i m;cases a;have b:((c.zip offs).map fun p=>Value.pointer (some ⟨p.1.1,p.1.2+p.2,none⟩)).toArray[n.toNat]?=some (Value.pointer (some ⟨c[n.toNat].1,c[n.toNat].2+o,none⟩)):=by
  have hz:(c.zip offs)[n.toNat]?=some (c[n.toNat],o):=by rw[Dr];exact⟨hb,x⟩
  rw[DA,B6,hz];rfl
 refine⟨.pointer (some ⟨c[n.toNat].1,c[n.toNat].2+o,none⟩),?_,⟨⟨_,ts,C,rfl⟩,⟨fun u d=>by simp[af]at d,fun u d=>by simp[rootsO]at d,trivial⟩,fun u d=>by simp[af]at d,rfl⟩⟩;rw[A];have f:(0≤n∧n<(hs.length:Int)):=⟨s,by omega⟩
 simp only[sL]at b ⊢;generalize (List.map (fun p=>Value.pointer (some ⟨p.1.1,p.1.2+p.2,none⟩)) (c.zip offs)).toArray=arr at b ⊢;simp[Instr.index,asIntOf,Go.underlying,d,f,part,isAgg,j,sizeOf,typeInfo,l,m,b]
theorem jx (ok:ax P tab){cx:Cx}{D:DSt}{a:Act}{w:World}(I:Inv cx D [] a.tmps w){o:Oper}{s:DSl}(e:aR mkD tab D o.op=some s):
  ∃y,(execOp a.eval o).run P w = .ok (.value y) w∧Tells cx D w s y:=by
 have q:∀{x:Operand}{s:DSl},opd mkD.nil D x=some s→Tells cx D w s (a.eval x):=fun h=>I.opd h
 have one:∀{x:Operand}{v:Value},opd mkD.nil D x=some (.one (.v v))→a.eval x=v:=fun h=>(I.opd h).val.1
 unfold aR at e;split at e
 ·rename_i x g;exact⟨_,by simp[execOp,g],q e⟩
 ·rename_i x g;exact⟨_,by simp[execOp,g],q e⟩
 ·rename_i c x y g;split at e
  ·rename_i hc;exact⟨_,by simp[execOp,g,one hc,asBool],q e⟩
  ·rename_i hc;exact⟨_,by simp[execOp,g,one hc,asBool],q e⟩
  ·cases e
 ·rename_i x g;simp only[BT]at e;obtain⟨s',hs,e⟩:=e;split at e
  ·rename_i r;cases e;obtain⟨ad,L⟩:=zd (q hs) r;exact⟨a.eval x,by simp[execOp,g,L],q hs⟩
  ·cases e
 ·rename_i op t x y ty g;split at e
  ·rename_i J K F hb;rw[BS]at e;obtain⟨z,hz,rfl⟩:=e;have:=xT ok x y w hz;refine⟨z,?_,.one_v _ (xS hz)⟩;simp only[execOp,g,one F,one hb];simp only[Sem.run_bind]at this ⊢;rw[this];rfl
  ·rename_i us vs F hb;rw[BS]at e;obtain⟨z,hz,rfl⟩:=e;obtain⟨xs,M,N⟩:=(q F).val;obtain⟨ys,X,O⟩:=(q hb).val;obtain⟨m,u⟩:=yR ok (op:=op) (t:=t) N O hz x y w;refine⟨z,?_,.one_v _ u⟩;simp only[execOp,g,M,X];simp only[Sem.run_bind]at m ⊢;rw[m];rfl
  ·cases e
 ·rename_i op t x g;split at e
  ·rename_i b hb;split at e
   ·cases e;exact⟨_,by simp[execOp,g,one hb,Op.unary],.one_v _ rfl⟩
   ·cases e
  ·rename_i k n hb;split at e
   ·cases e;exact⟨_,by simp[execOp,g,one hb,Op.unary,Op.intArith],.one_v _ rfl⟩
   ·cases e
  ·cases e
 ·rename_i Q dst x g;split at e
  ·rename_i k n ts sz Y ze k' M hs hd;cases e;have m:=qp (Tab.ok ok hd) rfl;obtain⟨i,d,z,g1,Z,_⟩:=cO (Tab.ok ok hs);have W:P.intKind dst=k':=by simp[Program.intKind,m]
   refine⟨_,?_,.one_v _ rfl⟩;simp only[execOp,g,one M,Sem.run_bind];rw[run_convert_int w Q dst k n (by simp[Z]) (by rw[W];exact m)];simp[W]
  ·cases e
 ·rename_i t x g;split at e
  ·rename_i p ti r A;split at e
   ·cases e
   ·rename_i R;obtain⟨y,m,u⟩:=Tells.load I (Tab.ok ok A) R (q r) e;exact⟨y,by simp[execOp,g,m],u⟩
  ·cases e
 ·rename_i t x f g;simp only[BT]at e;obtain⟨p,r,e⟩:=e;obtain⟨y,m,u⟩:=Tells.fieldAddr ok (q r) e;exact⟨y,by simp[execOp,g,m],u⟩
 ·rename_i t x i g;split at e
  ·rename_i p k n r G;obtain⟨y,m,u⟩:=Tells.indexAddr ok I (q r) (k:=k) e;exact⟨y,by simp[execOp,g,one G,m],u⟩
  ·cases e
 ·rename_i t x i g;split at e
  ·rename_i str k n hs G;split at e
   ·rename_i A;obtain⟨ti,A,S⟩:=yN A;have hu:=l5 (Tab.ok ok A) S;split at e
    ·rename_i hb;cases e;refine⟨.int .u8 (se str n),?_,.one_v _ rfl⟩;have F0:n.toNat<str.size:=by omega
     simp only[execOp,g,one hs,one G,Sem.run_bind];have:=run_index_string (P:=P) w t str k n hu;rw[this];simp[hb.1,hb.2,se]
    ·cases e
   ·cases e
  ·rename_i offs hs k n r G;split at e
   case isFalse=>cases e
   rename_i hc;split at e
   case h_2=>cases e
   rename_i h o hh ho;cases e;obtain⟨y,m,u⟩:=Tells.indexArr ok (q r) (k:=k) hc.1 hc.2.1 hc.2.2 hh ho;exact⟨y,by simp[execOp,g,one G,m],u⟩
  ·cases e
 ·rename_i t x lo hi g;split at e
  ·rename_i s' l h hs hl hh;obtain⟨pl,rfl,U⟩:=oF I hl;obtain⟨ph,rfl,V⟩:=oF I hh;obtain⟨y,m,u⟩:=Tells.slice ok I (q hs) pl ph e;exact⟨y,by simp[execOp,g,U,V,m],u⟩
  ·cases e
 ·rename_i c g;unfold pQ at e;split at e
  ·rename_i x t hc j C;obtain⟨H,args,B⟩:=c;simp only at hc j C;obtain rfl:args = #[x]:=by rw[←C3];exact j
   obtain rfl:B = #[t]:=by rw[←C3];exact C
   subst hc;simp only[BT]at e;obtain⟨p,r,e⟩:=e;rw[BS]at e;obtain⟨n,G,rfl⟩:=e;have:=Tells.len ok (q r) G o.type;exact⟨_,by simp[execOp,g,resolve,invoke,builtin,this],.one_v _ rfl⟩
  ·rename_i ts x y hc j;obtain⟨H,args,B⟩:=c;simp only at hc j;obtain rfl:args = #[x,y]:=by rw[←C3];exact j
   subst hc;split at e
   ·rename_i k J k' K F hb;cases e;have:=run_max_int2 (P:=P) w B o.type k k' J K;exact⟨_,by simp[execOp,g,resolve,invoke,builtin,one F,one hb,this],.one_v _ rfl⟩
   ·cases e
  ·rename_i ts x y hc j;obtain⟨H,args,B⟩:=c;simp only at hc j;obtain rfl:args = #[x,y]:=by rw[←C3];exact j
   subst hc;split at e
   ·rename_i k J k' K F hb;cases e;have:=run_min_int2 (P:=P) w B o.type k k' J K;exact⟨_,by simp[execOp,g,resolve,invoke,builtin,one F,one hb,this],.one_v _ rfl⟩
   ·cases e
  ·cases e
 ·cases e
end
def fV (t:DT)(st:List (Nat×Nat))(d:Dec)(z n:Nat):Prop:=∃k rows,getN t st=some (.s k d z rows)∧rows.length=n
def jd (h c:Nat)(st:List (Nat×Nat)):DSl→Prop| .al b d a _ _=>b=h∧d=c∧a=st| .pe b d a _ _=>b=h∧d=c∧a=st|_=>False
def jC (h c:Nat)(s:DSl):Prop :=(∃a b ts off,s = .im (.lent h c a) b ts off)∨∃a d z r,(.s (.lent h c a) d z r:DT)∈rootsO s
theorem nm {s:DSl}{cs a:List DT}(h:ap s=some cs)(c:a.length=cs.length):ap (setCells a s)=some a:=by
 cases s with
 |one t=>cases h;obtain⟨u,rfl⟩:=List.length_eq_one_iff.1 c;rfl
 |agg ts=>rfl
 |box b ts=>rfl
 |_=>cases h
theorem eL {s:DSl}{cs:List DT}(h:ap s=some cs):af s=cs∧rootsO s=cs:=by cases s<;>cases h<;>exact⟨rfl,rfl⟩
theorem qP {D D':DSt}{h c:Nat}{t':DT}(e:cT D h c t'=some D'):
  ∃s cs,D[h]?=some s∧ap s=some cs∧D'=D.set h (setCells (cs.set c t') s):=by
 unfold cT at e;split at e
 ·rename_i s hs;rw[BS]at e;obtain⟨cs,a,rfl⟩:=e;exact⟨s,cs,hs,a,rfl⟩
 ·cases e
def lE (b:Nat):DSl→Nat| .box a _=>[a.1].count b|_=>0
theorem gH {s:DSl}{cs:List DT}(h:ap s=some cs)(b:Nat):(ownBl s).count b=lE b s+(cs.flatMap ownR).count b:=by
 cases s with
 |one t=>cases h;simp[ownBl,lE]
 |agg ts=>cases h;simp[ownBl,lE]
 |box a ts=>cases h;rw[lE, ←Ce];rfl
 |_=>cases h
structure zO (cx:Cx)(D:DSt)(P P':List (DT×Value))(w w':World)(h c:Nat)(t t':DT):Prop where
 at_:ah D h c=some t
 own:t.isOwn=true
 holds:Holds w' t'
 ownT:t'.isOwn=true→OwnT w' t'
 kind:t'.isOwn=true∨t' = .any
 val:∀y,VT t y→VT t' y
 cnt:∀b,(ownR t').count b+aq P' b≤(if b<w.heap.size then(ownR t).count b+aq P b else 1)
 new:∀b,w.heap.size≤b→0<(ownR t').count b+aq P' b→b<w'.heap.size
 hides:∀s∈D,¬jC h c s
 speak:∀s∈D,∀st,jd h c st s→t'.isOwn=true∧∀d z n,fV t st d z n→fV t' st d z n
 size:w.heap.size≤w'.heap.size
 same:∀b,b<w.heap.size→b∉bl t→w'.heap[b]?=w.heap[b]?
 os:w'.os=w.os
 tape:w'.tape=w.tape
 output:w'.output=w.output
 pend:∀p∈P',VT p.1 p.2∧Holds w' p.1∧(p.1.isOwn=true→OwnT w' p.1)∧(p.1.isOwn=false→∀x∈bl p.1,cx.far x)
theorem a8 {D:DSt}{s:DSl}{b:Nat}(hs:s∈D)(hb:b∈ownBl s):0<az D b:=by unfold az;exact B8.2 (B5.2 ⟨s,hs,hb⟩)
theorem Inv.apart {cx:Cx}{D:DSt}{P:List (DT×Value)}{tm:Array Value}{w:World}(I:Inv cx D P tm w){u v:Nat}{s s':DSl}(a:u≠v)(hs:D[u]?=some s)(c:D[v]?=some s')
  {b:Nat} (hb:b∈ownBl s) (d:b∈ownBl s'):False:=by
 have f:=aE ownBl (Sl.any:DSl) b D u s hs;have g:(ownBl (Sl.any:DSl)).count b=0:=rfl;have h:0<((D.set u .any).flatMap ownBl).count b:=by refine B8.2 (B5.2 ⟨s',?_,d⟩);refine BR (i:=v) ?_;rw[B3 a];exact c
 have e:=I.once b;have j:0<(ownBl s).count b:=B8.2 hb;unfold az at e;omega
theorem wa {ts:List DT}{b:Nat}(hc:(ts.flatMap ownR).count b≤1){i j:Nat}{u v:DT}(a:i≠j)(hi:ts[i]?=some u)(c:ts[j]?=some v)(d:b∈ownR u)(hv:b∈ownR v):False:=by
 have e:=aE ownR (T.any:DT) b ts i u hi;have f:(ownR (T.any:DT)).count b=0:=rfl;have g:0<((ts.set i .any).flatMap ownR).count b:=by refine B8.2 (B5.2 ⟨v,?_,hv⟩);refine BR (i:=j) ?_;rw[B3 a];exact c
 have h:0<(ownR u).count b:=B8.2 d;omega
theorem Inv.cells_once {cx:Cx}{D:DSt}{P:List (DT×Value)}{tm:Array Value}{w:World}(I:Inv cx D P tm w){h:Nat}{s:DSl}{cs:List DT}(hs:D[h]?=some s)(hc:ap s=some cs)(b:Nat):
  (cs.flatMap ownR).count b≤1:=by
 have c:=gH hc b;have a:=I.once b;have d:=aE ownBl (Sl.any:DSl) b D h s hs;have e:(ownBl (Sl.any:DSl)).count b=0:=rfl;unfold az at a;omega
theorem Inv.owner {cx:Cx}{D:DSt}{P:List (DT×Value)}{tm:Array Value}{w:World}(I:Inv cx D P tm w){h c:Nat}{t:DT}(hc:ah D h c=some t)(m:t.isOwn=true)
  {j k:Nat} {t':DT} (a:ah D j k=some t') (d:t'.isOwn=true) {b:Nat} (hb:b∈bl t) (f:b∈bl t'):j=h∧k=c:=by
 obtain⟨s,q,B,C,r,u⟩:=aO hc;obtain⟨s',v,F,G,x,y⟩:=aO a;by_cases e:j=h
 ·subst e;refine⟨rfl,?_⟩;by_cases n:k=c
  ·exact n
  ·exfalso;unfold ah at hc a;simp only[BT]at hc a;obtain⟨cs,⟨H,o,p⟩,z⟩:=hc;obtain⟨A,⟨J,g,i⟩,l⟩:=a;rw[o]at g;cases g;rw[p]at i;cases i;exact wa (ts:=cs) (I.cells_once o p b) n l z (by simp[ownR,d,f]) (by simp[ownR,m,hb])
 ·exact(I.apart e v q (y d b f) (u m b hb)).elim
theorem Inv.root_out {cx:Cx}{D:DSt}{P:List (DT×Value)}{tm:Array Value}{w:World}(I:Inv cx D P tm w){h c:Nat}{t:DT}(hc:ah D h c=some t)(q:t.isOwn=true)
  {u:Nat} {s:DSl} (hs:D[u]?=some s) (B:¬jC h c s) {v:DT} (hv:v∈af s) (K:u=h→∃(i:Nat) (cs:List DT),ap s=some cs∧cs[i]?=some v∧i≠c) {b:Nat} (hb:b∈bl v) (j:b∈bl t):False:=by
 obtain⟨sh,m,C,W,V,F⟩:=aO hc;have g:=(I.bnd b (by have:=a8 C (F q b j);omega)).1;have y:=I.kind s (BR hs);have a:v∈rootsO s→aB cx D v→(v.isOwn=true→False)→False:=by
  intro L G l;cases v with
  |v x=>simp[bl]at hb
  |any=>simp[bl]at hb
  |s k d z r =>
   cases k with
   |far=>exact Cx.far_not (G b hb) g
   |lent X Y M =>
    rcases G with⟨_,_,A⟩|⟨t',N,O,A,Z⟩
    ·exact Cx.keep_not (A b hb) g
    ·obtain⟨rfl,rfl⟩:=I.owner hc q N O j (A b hb);exact B (.inr ⟨M,d,z,r,L⟩)
   |own=>exact l rfl
 have home:∀cs,ap s=some cs→v.isOwn=true→False:=by
  intro cs H l;by_cases e:u=h
  ·obtain⟨i,F0,J,hi,Q⟩:=K e;have n:ah D u i=some v:=by simp[ah,hs,J,hi]
   exact Q (I.owner hc q n l j hb).2
  ·rw[(eL H).1]at hv;obtain⟨i,hi⟩:=BX hv;have n:ah D u i=some v:=by simp[ah,hs,H,hi]
   exact e (I.owner hc q n l j hb).1
 cases s with
 |one x=>exact a hv (y v hv) (home _ rfl)
 |agg x=>exact a hv (y v hv) (home _ rfl)
 |box R x=>exact a hv (y v hv) (home _ rfl)
 |tup rs =>
  refine a hv (y v hv) fun l=>?_
  have S:b∈ownBl (.tup rs:DSl):=by simp only[af,B5]at hv;obtain⟨p,U,hv⟩:=hv;simp only[ownBl,B5];exact⟨p,U,v,hv,by simp[ownR,l,hb]⟩
  by_cases e:u=h
  ·subst e;rw[hs]at m;cases m;simp[ah,hs,ap]at hc
  ·exact I.apart e hs m S (F q b j)
 |im k R ts off =>
  have o:iK cx D k R.1 ts:=y;cases k with
  |own=>exact o
  |far=>exact Cx.far_not (o.2 v hv b hb) g
  |lent X Y M =>
   rcases o with⟨_,_,A⟩|⟨t',N,O,A,g4⟩
   ·exact Cx.keep_not (A v hv b hb) g
   ·obtain⟨rfl,rfl⟩:=I.owner hc q N O j (g4 v hv b hb);exact B (.inl ⟨M,R,ts,off,rfl⟩)
 |fni f caps =>simp only[af,B5]at hv;obtain⟨p,U,hv⟩:=hv;exact Cx.far_not ((y p U).2 v hv b hb) g
 |any=>simp[af]at hv
 |al=>simp[af]at hv
 |pe=>simp[af]at hv
 |pb=>simp[af]at hv
 |clo=>simp[af]at hv
theorem eP {h c:Nat}{s:DSl}(hs:¬jC h c s):∀a d z r,(.s (.lent h c a) d z r:DT)∉rootsO s :=
 fun a d z r b=>hs (.inr ⟨a,d,z,r,b⟩)
theorem Inv.upd {cx:Cx}{D D':DSt}{P P':List (DT×Value)}{tm:Array Value}{w w':World}(I:Inv cx D P tm w){h c:Nat}{t t':DT}(e:cT D h c t'=some D')
  (U:zO cx D P P' w w' h c t t'):Inv cx D' P' tm w':=by
 obtain⟨G,cs,hs0,m,rfl⟩:=qP e;have Q:=U.at_;have hct:cs[c]?=some t:=by have:=U.at_;simp only[ah,hs0,BU,m]at this;exact this
 have F5:(cs.set c t').length=cs.length:=by simp
 have K:h<D.length:=by
  rcases BY h D.length with g|g
  ·exact g
  ·rw[BV g]at hs0;cases hs0
 have B:c<cs.length:=by
  rcases BY c cs.length with g|g
  ·exact g
  ·rw[BV g]at hct;cases hct
 have C:=nm m F5;have F2:=BR hs0;have l:∀q o,¬(q=h∧o=c)→ah (D.set h (setCells (cs.set c t') G)) q o=ah D q o:=by
  intro q o F4;by_cases e:q=h
  ·subst e;have F6:o≠c:=fun g=>F4 ⟨rfl,g⟩
   unfold ah;rw[B1 K,hs0];simp only[BU,C,m];rw[B3 (fun g=>F6 g.symm)]
  ·exact gC e
 have jF:ah (D.set h (setCells (cs.set c t') G)) h c=some t':=by unfold ah;rw[B1 K];simp only[BU,C];rw[B1 B]
 have F3:∀b,az (D.set h (setCells (cs.set c t') G)) b+(ownR t).count b=az D b+(ownR t').count b:=by
  intro b;have h1:=aE ownBl (setCells (cs.set c t') G) b D h G hs0;have h2:=gH m b;have h3:=gH C b;have h4:=aE ownR t' b cs c t hct;have h5:lE b (setCells (cs.set c t') G)=lE b G:=by cases G<;>rfl
  rw[h5]at h3;unfold az;omega
 have V:∀(u:Nat)(s:DSl),D[u]?=some s→¬jC h c s:=fun u s hs=>U.hides s (BR hs)
 have Y:∀b∈bl t,cx.may b:=by intro b hb;obtain⟨sh,F,L,W,F7,g4⟩:=aO Q;exact(I.bnd b (by have:=a8 L (g4 U.own b hb);omega)).1
 have M:∀(u:Nat)(X:Nat×Nat)(ts:List DT),D[u]?=some (.box X ts)→X.1∉bl t:=by
  intro u X ts hb S;obtain⟨sh,F,L,W,F7,g4⟩:=aO Q;by_cases e:u=h
  ·subst e;rw[hs0]at hb;cases hb;cases m;have h1:=I.once X.1;have h2:(ownBl (.box X cs:DSl)).count X.1=1+(cs.flatMap ownR).count X.1:=by simp[ownBl,DR]
   have h3:=aE ownBl (Sl.any:DSl) X.1 D u _ hs0;have h0:(ownBl (Sl.any:DSl)).count X.1=0:=rfl;have h4:0<(cs.flatMap ownR).count X.1:=B8.2 (B5.2 ⟨t,BR hct,by simp[ownR,U.own,S]⟩);unfold az at h1;omega
  ·exact I.apart e hb F (by simp[ownBl]) (g4 U.own _ S)
 have fr:∀{v:DT},(∀b∈bl v,b∈bl t→False)→∀b∈bl v,b<w.heap.size→w'.heap[b]?=w.heap[b]?:=fun h b hb K=>U.same b K fun A=>h b hb A
 have lies:∀{b:Nat×Nat}{ts:List DT},b.1∉bl t→Lies w b ts→Lies w' b ts:=by rintro b ts hb ⟨o,e',f,h1,h2⟩;exact⟨o,e',f,by rw[U.same _ (ci h1) hb];exact h1,h2⟩
 refine⟨by have:=I.size;simpa using this,?_,?_,?_,U.pend,?_,?_,?_⟩
 ·intro u s hs;have vs:∀(s:DSl),s∈D→∀y,VS D s y→VS (D.set h (setCells (cs.set c t') G)) s y:=by
   intro s F8 y hv;have nd:∀q o st d z n,jd q o st s→b6 D q o st d z n→b6 (D.set h (setCells (cs.set c t') G)) q o st d z n:=by
    intro q o st d z n hsp hn;by_cases e:q=h∧o=c
    ·obtain⟨rfl,rfl⟩:=e;obtain⟨t1,H,N,k3⟩:=hn;rw[Q]at H;cases H;obtain⟨F,L⟩:=U.speak s F8 st hsp;exact⟨t',jF,F,L d z n k3⟩
    ·unfold b6;rw[l q o e];exact hn
   have bx:∀(q:Nat)(b:Nat×Nat)(ts:List DT),D[q]?=some (.box b ts)→∃ts',(D.set h (setCells (cs.set c t') G))[q]?=some (.box b ts'):=by
    intro q b ts hb;by_cases e:q=h
    ·subst e;rw[hs0]at hb;cases hb;exact⟨_,by rw[B1 K];rfl⟩
    ·exact⟨ts,by rw[B3 (fun g=>e g.symm)];exact hb⟩
   cases s with
   |al q o st lo len =>obtain⟨d,z,n,a,H,N⟩:=hv;exact⟨d,z,n,a,nd q o st d z n ⟨rfl,rfl,rfl⟩ H,N⟩
   |pe q o st i off =>obtain⟨d,z,n,H,N⟩:=hv;exact⟨d,z,n,nd q o st d z n ⟨rfl,rfl,rfl⟩ H,N⟩
   |pb q off =>obtain⟨b,ts,H,N⟩:=hv;obtain⟨ts',k3⟩:=bx _ _ _ H;exact⟨b,ts',k3,N⟩
   |clo f hs =>obtain⟨bs,H,N,k3⟩:=hv;exact⟨bs,H,fun i h b hi hb=>by obtain⟨ts,k4⟩:=N i h b hi hb;exact bx _ _ _ k4,k3⟩
   |_=>exact hv
  by_cases Z:u=h
  ·subst Z;rw[B1 K]at hs;cases hs;have hv:=I.val u G hs0;have cells:∀ys:List Value,VCells cs ys→VCells (cs.set c t') ys:=by
    rintro ys ⟨H,N⟩;refine⟨by simpa using H,fun i v y hi hy=>?_⟩;by_cases R:i=c
    ·subst R;rw[B1 B]at hi;cases hi;exact U.val y (N i t y hct hy)
    ·rw[B3 (fun g=>R g.symm)]at hi;exact N i v y hi hy
   cases G with
   |one x =>
    cases m;have:c=0:=by simp at B;exact B
    subst this;simp at hct;subst hct;exact U.val _ hv
   |agg ts =>cases m;obtain⟨ys,H,N⟩:=hv;exact⟨ys,H,cells _ N⟩
   |box b ts=>exact hv
   |_=>cases m
  ·rw[B3 (fun g=>Z g.symm)]at hs;exact vs s (BR hs) _ (I.val u s hs)
 ·intro s hs;obtain⟨u,hu⟩:=BX hs;by_cases Z:u=h
  ·subst Z;rw[B1 K]at hu;cases hu;have S:=I.mem G F2;have hr:=eL m;have F0:=eL C;have out:∀i v,cs[i]?=some v→i≠c→∀b∈bl v,b∈bl t→False:=by intro i v hi F9 b hb A;exact I.root_out Q U.own hs0 (V _ _ hs0) (v:=v) (by rw[hr.1];exact BR hi) (fun _=>⟨i,cs,m,hi,F9⟩) hb A
   refine⟨?_,?_,?_⟩
   ·intro v hv;rw[F0.1]at hv;obtain⟨i,hi⟩:=BX hv;by_cases R:i=c
    ·subst R;rw[B1 B]at hi;cases hi;exact U.holds
    ·rw[B3 (fun g=>R g.symm)]at hi;exact(S.1 v (by rw[hr.1];exact BR hi)).frame (fr (out i v hi R))
   ·intro v hv ho;rw[F0.2]at hv;obtain⟨i,hi⟩:=BX hv;by_cases R:i=c
    ·subst R;rw[B1 B]at hi;cases hi;exact U.ownT ho
    ·rw[B3 (fun g=>R g.symm)]at hi;exact(S.2.1 v (by rw[hr.2];exact BR hi) ho).frame (fr (out i v hi R))
   ·cases G with
    |box b ts =>
     cases m;have hb:=M u b _ hs0;obtain⟨H,N⟩:=S.2.2;refine⟨?_,?_⟩
     ·obtain⟨o,e',f,F,L⟩:=lies hb H;refine⟨o,e',f,F,fun j v hj=>?_⟩;by_cases ej:j=c
      ·subst ej;rw[B1 B]at hj;cases hj;obtain⟨y,W,g4⟩:=L j t hct;exact⟨y,W,U.val y g4⟩
      ·rw[B3 (fun g=>ej g.symm)]at hj;exact L j v hj
     ·intro o e' lo hi F;rw[U.same _ H.lt hb]at F;simpa using N o e' lo hi F
    |one x=>trivial
    |agg x=>trivial
    |_=>cases m
  ·rw[B3 (fun g=>Z g.symm)]at hu;have S:=I.mem s (BR hu);have out:∀v∈af s,∀b∈bl v,b∈bl t→False:=fun v hv b hb A =>I.root_out Q U.own hu (V _ _ hu) hv (fun g=>absurd g Z) hb A
   refine⟨fun v hv=>(S.1 v hv).frame (fr (out v hv)),fun v hv ho=>?_,?_⟩
   ·have Fa:v∈af s:=by cases s<;>simp_all[rootsO,af]
    exact(S.2.1 v hv ho).frame (fr (out v Fa))
   ·have J:=I.kind s (BR hu);cases s with
    |box b ts =>have hb:=M u b _ hu;obtain⟨H,N⟩:=S.2.2;exact⟨lies hb H,fun o e' lo hi F=>by rw[U.same _ H.lt hb]at F;exact N o e' lo hi F⟩
    |im k b ts off =>
     refine lies ?_ S.2.2;intro A;cases k with
     |own=>exact J
     |far=>exact Cx.far_not J.1 (Y _ A)
     |lent q o O =>
      rcases J with⟨_,W,_⟩|⟨t1,F,L,W,g4⟩
      ·exact Cx.keep_not W (Y _ A)
      ·obtain⟨rfl,rfl⟩:=I.owner Q U.own F L A W;exact V _ _ hu (.inl ⟨O,b,ts,off,rfl⟩)
    |fni f caps=>exact fun p hp=>lies (fun A=>Cx.far_not (J p hp).1 (Y _ A)) (S.2.2 p hp)
    |_=>trivial
 ·intro s hs;obtain⟨u,hu⟩:=BX hs;have kt:∀v:DT,(∀O d z r,v ≠ .s (.lent h c O) d z r)→aB cx D v→aB cx (D.set h (setCells (cs.set c t') G)) v:=by
   intro v F4 J;cases v with
   |v x=>trivial
   |any=>trivial
   |s k d z r =>
    cases k with
    |own=>trivial
    |far=>exact J
    |lent q o O =>
     rcases J with⟨F,L⟩|⟨t1,F,L,W⟩
     ·exact .inl ⟨by simpa using F,L⟩
     refine .inr ⟨t1,?_,L,W⟩;rw[l q o (by rintro⟨rfl,rfl⟩;exact F4 O d z r rfl)];exact F
  by_cases Z:u=h
  ·subst Z;rw[B1 K]at hu;cases hu;have J:=I.kind G F2;have hr:=eL m;have F0:=eL C;have all:∀v∈cs.set c t',aB cx (D.set u (setCells (cs.set c t') G)) v:=by
    intro v hv;obtain⟨i,hi⟩:=BX hv;by_cases R:i=c
    ·subst R;rw[B1 B]at hi;cases hi;rcases U.kind with g|g
     ·cases t' with
      |v x=>trivial
      |any=>trivial
      |s k d z r=>cases k<;>first|trivial|(simp[T.isOwn]at g)
     ·rw[g];trivial
    ·rw[B3 (fun g=>R g.symm)]at hi;have F1:v∈af G:=by rw[hr.1];exact BR hi
     refine kt v (fun O d z r g=>eP (V _ _ hs0) O d z r (by rw[hr.2, ←hr.1];exact g ▸ F1)) ?_;cases G with
     |one x=>exact J v F1
     |agg x=>exact J v F1
     |box b x=>exact J v F1
     |_=>cases m
   cases G with
   |one x =>intro v hv;exact all v (by rw[←F0.1];exact hv)
   |agg x=>exact all
   |box b x=>exact all
   |_=>cases m
  ·rw[B3 (fun g=>Z g.symm)]at hu;have J:=I.kind s (BR hu);have hh:=V _ _ hu;cases s with
   |im k b ts off =>
    cases k with
    |own=>exact J
    |far=>exact J
    |lent q o O =>
     rcases J with⟨F,L⟩|⟨t1,F,L,W⟩
     ·exact .inl ⟨by simpa using F,L⟩
     refine .inr ⟨t1,?_,L,W⟩;rw[l q o (by rintro⟨rfl,rfl⟩;exact hh (.inl ⟨O,b,ts,off,rfl⟩))];exact F
   |fni f caps=>exact J
   |any=>exact fun v hv=>by simp[af]at hv
   |al=>exact fun v hv=>by simp[af]at hv
   |pe=>exact fun v hv=>by simp[af]at hv
   |pb=>exact fun v hv=>by simp[af]at hv
   |clo=>exact fun v hv=>by simp[af]at hv
   |one x=>exact fun v hv=>kt v (fun O d z r g=>eP hh O d z r (g ▸ hv)) (J v hv)
   |agg x=>exact fun v hv=>kt v (fun O d z r g=>eP hh O d z r (g ▸ hv)) (J v hv)
   |box b x=>exact fun v hv=>kt v (fun O d z r g=>eP hh O d z r (g ▸ hv)) (J v hv)
   |tup x=>exact fun v hv=>kt v (fun O d z r g=>eP hh O d z r (g ▸ hv)) (J v hv)
 ·intro b;have h1:=F3 b;have h2:=U.cnt b;have h3:=I.once b;by_cases hb:b<w.heap.size
  ·rw[BZ hb]at h2;omega
  ·rw[Cd hb]at h2;have:az D b+aq P b=0:=by
    rcases CE (az D b+aq P b)with g|g
    ·exact g
    ·exact absurd (I.bnd b g).2 hb
   omega
 ·intro b Fb;have h1:=F3 b;have h2:=U.cnt b;by_cases hb:b<w.heap.size
  ·rw[BZ hb]at h2;exact⟨(I.bnd b (by omega)).1,Cr hb U.size⟩
  ·have:az D b+aq P b=0:=by
    rcases CE (az D b+aq P b)with g|g
    ·exact g
    ·exact absurd (I.bnd b g).2 hb
   exact⟨.inl (CH I.frame.size (Nat.le_of_not_lt hb)),U.new b (Nat.le_of_not_lt hb) (by omega)⟩
 ·refine⟨U.os.trans I.frame.os,U.tape.trans I.frame.tape,U.output.trans I.frame.output,CH I.frame.size U.size,fun b hb=>?_⟩;rw[U.same b (Cr hb.1 I.frame.size) (fun A=>Cx.keep_not hb (Y b A))];exact I.frame.same b hb
theorem lc {rows:List (List DT)}{i c:Nat}{row:List DT}{u u':DT}(hi:rows[i]?=some row)(a:row[c]?=some u)(b:Nat):
  ((rows.set i (row.set c u')).flatMap fun x=>x.flatMap bl).count b+(bl u).count b=(rows.flatMap fun x=>x.flatMap bl).count b+(bl u').count b:=by
 have d:=aE (fun x:List DT=>x.flatMap bl) (row.set c u') b rows i row hi;have e:=aE bl u' b row c u a;omega
theorem sb {k:Kd}{d:Dec}{z:Nat}{rows:List (List DT)}{i c:Nat}{row:List DT}{u:DT}(hi:rows[i]?=some row)(a:row[c]?=some u)(b:Nat):
  (bl u).count b+(if d.nil then 0 else [d.b].count b)≤(bl (.s k d z rows)).count b:=by
 have h:=lc (u' := .any) hi a b;rw[bv,Ce];have:(bl (.any:DT)).count b=0:=rfl;split<;>simp<;>omega
theorem wv {rows:List (List DT)}{i c f j:Nat}{row a:List DT}{u v:DT}{b:Nat}(m:(rows.flatMap fun x=>x.flatMap bl).count b≤1)
  (hi:rows[i]?=some row) (n:row[c]?=some u) (d:rows[f]?=some a) (hj':a[j]?=some v) (k:¬(f=i∧j=c)) (o:b∈bl u) (hv:b∈bl v):False:=by
 have h:=lc (u':=(.any:DT)) hi n b;have p:(bl (.any:DT)).count b=0:=rfl;have q:0<(bl u).count b:=B8.2 o;have l:i<rows.length:=by
  rcases BY i rows.length with g|g
  ·exact g
  ·rw[BV g]at hi;cases hi
 have r:0<((rows.set i (row.set c .any)).flatMap fun x=>x.flatMap bl).count b:=by
  refine B8.2 (B5.2 ?_);by_cases e:f=i
  ·subst e;rw[hi]at d;cases d;have hc:c≠j:=fun g=>k ⟨rfl,g.symm⟩
   refine⟨row.set c .any,BR (i:=f) (by rw[B1 l]),B5.2 ⟨v,BR (i:=j) (by rw[B3 hc];exact hj'),hv⟩⟩
  ·exact⟨a,BR (i:=f) (by rw[B3 (fun g=>e g.symm)];exact d),B5.2 ⟨v,BR hj',hv⟩⟩
 omega
structure NodeOk (w w':World)(n n':DT):Prop where
 holds:Holds w' n'
 own:OwnT w' n'
 val:∀y,VT n y→VT n' y
 same:∀b,b<w.heap.size→b∉bl n→w'.heap[b]?=w.heap[b]?
theorem qV {f:DT→Option DT}{w w':World}{n n':DT}(N:NodeOk w w' n n')(hf:f n=some n'):∀(st:List (Nat×Nat)){t t':DT},Holds w t→OwnT w t→(∀b,(bl t).count b≤1) →
  getN t st=some n→cM f t st=some t' →
  NodeOk w w' t t'∧(∀b,(bl t').count b+(bl n).count b=(bl t).count b+(bl n').count b)∧(st≠[]→t'.isOwn=true∧∀d z m,fV t [] d z m→fV t' [] d z m)∧getN t' st=some n'
 |[],t,t',hh,ho,X,H,M=>by cases H;simp only[cM,hf]at M;cases M;exact⟨N,fun b=>DR _ _,fun h=>absurd rfl h,rfl⟩
 |(i,c)::st,t,t',hh,ho,X,H,M=>by
  cases t with
  |v x=>simp[getN]at H
  |any=>simp[getN]at H
  |s k d z rows =>
   simp only[getN,BT]at H;obtain⟨u,⟨row,hi,G⟩,H⟩:=H;simp only[cM,hi,G,BU,BS]at M;obtain⟨u',M,rfl⟩:=M;have I:i<rows.length:=by
    rcases BY i rows.length with g|g
    ·exact g
    ·rw[BV g]at hi;cases hi
   have J:c<row.length:=by
    rcases BY c row.length with g|g
    ·exact g
    ·rw[BV g]at G;cases G
   cases hh with
   |e=>simp at hi
   |s _ _ _ _ C hsp c0 e0 f0 hb hcap hz hv hh =>
    cases ho with
    |nil=>simp at hi
    |s _ _ _ Y hsp c1 e1 Z F0 R O hroom F1 S =>
     have U:∀b,(bl u).count b+[d.b].count b≤1:=by intro b;have:=sb (k := .own) (d:=d) (z:=z) hi G b;rw[C]at this;simp only[Ch,CD]at this;exact CH this (X b)
     obtain⟨N',F2,F6,F3⟩:=qV N hf st (hh i row c u hi G) (S i row c u hi G) (fun b=>by have:=U b;omega) H M;have D:∀b,b∈bl n→b∈bl u:=lD st H;have V:d.b∉bl n:=by intro hm;have h2:=U d.b;have h3:0<(bl u).count d.b:=B8.2 (D _ hm);simp at h2;omega
     have F4:w'.heap[d.b]?=some (.cells c0 e0 f0):=by rw[N.same _ (ci hb) V];exact hb
     have W:∀b,(rows.flatMap fun x=>x.flatMap bl).count b≤1:=by intro b;have:=X b;rw[bv,Ce]at this;exact CH (Nat.le_add_left _ _) this
     have K:∀(p:Nat)(a:List DT),(rows.set i (row.set c u'))[p]?=some a→(p=i∧a=row.set c u')∨(p≠i∧rows[p]?=some a):=by
      intro p a o;by_cases e:p=i
      ·subst e;rw[B1 I]at o;cases o;exact .inl ⟨rfl,rfl⟩
      ·rw[B3 (fun g=>e g.symm)]at o;exact .inr ⟨e,o⟩
     have r:∀(p:Nat)(a:List DT)(j:Nat)(v:DT),(rows.set i (row.set c u'))[p]?=some a→a[j]?=some v →
       (p=i∧j=c∧v=u')∨(¬(p=i∧j=c)∧∃l,rows[p]?=some l∧l[j]?=some v):=by
      intro p a j v o q;rcases K p a o with⟨rfl,rfl⟩|⟨e,o⟩
      ·by_cases ej:j=c
       ·subst ej;rw[B1 J]at q;cases q;exact .inl ⟨rfl,rfl,rfl⟩
       ·rw[B3 (fun g=>ej g.symm)]at q;exact .inr ⟨fun g=>ej g.2,row,hi,q⟩
      ·exact .inr ⟨fun g=>e g.1,a,o,q⟩
     have L:∀(p:Nat)(l:List DT)(j:Nat)(v:DT),¬(p=i∧j=c)→rows[p]?=some l→l[j]?=some v→∀b∈bl v,b<w.heap.size→w'.heap[b]?=w.heap[b]?:=by intro p l j v F o q b hb P;exact N.same b P fun Q=>wv (W b) hi G o q F (D b Q) hb
     refine⟨⟨?_,?_,?_,?_⟩,?_,?_,?_⟩
     ·refine .s _ _ _ _ C hsp c0 e0 f0 F4 (by simpa using hcap) ?_ ?_ ?_
      ·intro p a o;rcases K p a o with⟨rfl,rfl⟩|⟨e,o⟩
       ·simpa using hz p row hi
       ·exact hz p a o
      ·intro p a j v o q;rcases r p a j v o q with⟨rfl,rfl,rfl⟩|⟨_,l,A,B⟩
       ·obtain⟨y,A,B⟩:=hv p row j u hi G;exact⟨y,A,N'.val y B⟩
       ·exact hv p l j v A B
      ·intro p a j v o q;rcases r p a j v o q with⟨rfl,rfl,rfl⟩|⟨F,l,A,B⟩
       ·exact N'.holds
       ·exact(hh p l j v A B).frame (L p l j v F A B)
     ·refine .s _ _ _ C hsp c1 e1 Z F0 (by rw[N.same _ (ci R) V];exact R) (by simpa using O) hroom F1 ?_;intro p a j v o q;rcases r p a j v o q with⟨rfl,rfl,rfl⟩|⟨F,l,A,B⟩
      ·exact N'.own
      ·exact(S p l j v A B).frame (L p l j v F A B)
     ·intro y hy;simpa[VT]using hy
     ·intro b P hb;exact N.same b P fun Q=>hb (ea hi G (D b Q))
     ·intro b;have A:=lc (u':=u') hi G b;have B:=F2 b;rw[bv,bv,Ce,Ce];omega
     ·intro _;refine⟨rfl,?_⟩;rintro d1 z1 m ⟨k1,F5,A,B⟩;cases A;exact⟨_,_,rfl,by simpa using B⟩
     ·simp only[getN];rw[B1 I];simp only[BU];rw[B1 J];exact F3
structure zN (cx:Cx)(D:DSt)(P P':List (DT×Value))(w w':World)(h:Nat)(b:Nat×Nat)(ts ts':List DT):Prop where
 at_:D[h]?=some (.box b ts)
 len:ts'.length=ts.length
 lies:Lies w' b ts'
 free:Free w' b ts.length
 holds:∀t∈ts',Holds w' t
 ownT:∀t∈ts',t.isOwn=true→OwnT w' t
 kind:∀t∈ts',aB cx (D.set h (.box b ts')) t
 cnt:∀x,(ts'.flatMap ownR).count x+aq P' x≤(ts.flatMap ownR).count x+aq P x
 keep:∀(c:Nat)(t:DT),ts[c]?=some t→t.isOwn=true→ts'[c]?=some t∨((∀s∈D,¬jC h c s)∧∀s∈D,∀st,¬jd h c st s)
 size:w.heap.size≤w'.heap.size
 same:∀x,x<w.heap.size→x≠b.1→w'.heap[x]?=w.heap[x]?
 os:w'.os=w.os
 tape:w'.tape=w.tape
 output:w'.output=w.output
 pend:∀p∈P',VT p.1 p.2∧Holds w' p.1∧(p.1.isOwn=true→OwnT w' p.1)∧(p.1.isOwn=false→∀x∈bl p.1,cx.far x)
theorem Inv.box_tree {cx:Cx}{D:DSt}{P:List (DT×Value)}{tm:Array Value}{w:World}(I:Inv cx D P tm w){h:Nat}{b:Nat×Nat}{ts:List DT}(hb:D[h]?=some (.box b ts))
  {a c:Nat} {t:DT} (hc:ah D a c=some t) (f:t.isOwn=true):b.1∉bl t:=by
 intro g;obtain⟨s,d,l,m,i,j⟩:=aO hc;by_cases e:a=h
 ·subst e;rw[hb]at d;cases d;simp only[ah,hb,BU,ap]at hc;have k:=I.once b.1;have n:(ownBl (.box b ts:DSl)).count b.1=1+(ts.flatMap ownR).count b.1:=by simp[ownBl,DR]
  have o:=aE ownBl (Sl.any:DSl) b.1 D a _ hb;have p:(ownBl (Sl.any:DSl)).count b.1=0:=rfl;have q:0<(ts.flatMap ownR).count b.1:=B8.2 (B5.2 ⟨t,BR hc,by simp[ownR,f,g]⟩);unfold az at k;omega
 ·exact I.apart e d hb (j f _ g) (by simp[ownBl])
theorem Inv.box_may {cx:Cx}{D:DSt}{P:List (DT×Value)}{tm:Array Value}{w:World}(I:Inv cx D P tm w){h:Nat}{b:Nat×Nat}{ts:List DT}(hb:D[h]?=some (.box b ts)):cx.may b.1∧b.1<w.heap.size :=
 I.bnd b.1 (by have:=a8 (b:=b.1) (BR hb) (by simp[ownBl]);omega)
theorem Inv.box_root {cx:Cx}{D:DSt}{P:List (DT×Value)}{tm:Array Value}{w:World}(I:Inv cx D P tm w){h:Nat}{b:Nat×Nat}{ts:List DT}(hb:D[h]?=some (.box b ts))
  {u:Nat} {s:DSl} (hs:D[u]?=some s) {v:DT} (hv:v∈af s):b.1∉bl v:=by
 intro g;have c:=(I.box_may hb).1;have n:=I.kind s (BR hs);have lent:∀o q,(∃t',ah D o q=some t'∧t'.isOwn=true∧b.1∈bl t')→False:=fun o q ⟨t',t,y,l⟩=>I.box_tree hb t y l
 have a:aB cx D v→(v.isOwn=true→False)→False:=by
  intro A j;cases v with
  |v x=>simp[bl]at g
  |any=>simp[bl]at g
  |s k d z r =>
   cases k with
   |far=>exact Cx.far_not (A _ g) c
   |lent o q H =>
    rcases A with⟨_,_,l⟩|⟨t',t,y,l,J⟩
    ·exact Cx.keep_not (l _ g) c
    ·exact lent o q ⟨t',t,y,l _ g⟩
   |own=>exact j rfl
 have home:∀cs,ap s=some cs→v.isOwn=true→False:=by intro cs B j;rw[(eL B).1]at hv;obtain⟨i,hi⟩:=BX hv;exact lent u i ⟨v,by simp[ah,hs,B,hi],j,g⟩
 cases s with
 |one x=>exact a (n v hv) (home _ rfl)
 |agg x=>exact a (n v hv) (home _ rfl)
 |box G x=>exact a (n v hv) (home _ rfl)
 |tup rs =>
  refine a (n v hv) fun j=>?_
  have C:b.1∈ownBl (.tup rs:DSl):=by simp only[af,B5]at hv;obtain⟨p,F,hv⟩:=hv;simp only[ownBl,B5];exact⟨p,F,v,hv,by simp[ownR,j,g]⟩
  by_cases e:u=h
  ·subst e;rw[hs]at hb;cases hb
  ·exact I.apart e hs hb C (by simp[ownBl])
 |im k G ts off =>
  have m:iK cx D k G.1 ts:=n;cases k with
  |own=>exact m
  |far=>exact Cx.far_not (m.2 v hv _ g) c
  |lent o q H =>
   rcases m with⟨_,_,l⟩|⟨t',t,y,l,K⟩
   ·exact Cx.keep_not (l v hv _ g) c
   ·exact lent o q ⟨t',t,y,K v hv _ g⟩
 |fni f caps =>simp only[af,B5]at hv;obtain⟨p,F,hv⟩:=hv;exact Cx.far_not ((n p F).2 v hv _ g) c
 |any=>simp[af]at hv
 |al=>simp[af]at hv
 |pe=>simp[af]at hv
 |pb=>simp[af]at hv
 |clo=>simp[af]at hv
theorem Inv.boxSet {cx:Cx}{D:DSt}{P P':List (DT×Value)}{tm:Array Value}{w w':World}(I:Inv cx D P tm w){h:Nat}{b:Nat×Nat}{ts ts':List DT}(B:zN cx D P P' w w' h b ts ts'):
  Inv cx (D.set h (.box b ts')) P' tm w':=by
 have hb:=B.at_;have C:h<D.length:=by
  rcases BY h D.length with g|g
  ·exact g
  ·rw[BV g]at hb;cases hb
 have m:∀j o,j≠h→ah (D.set h (.box b ts')) j o=ah D j o:=fun j o e=>gC e
 have q:∀c,ah (D.set h (.box b ts')) h c=ts'[c]?:=by intro c;unfold ah;rw[B1 C];rfl
 have y:∀c,ah D h c=ts[c]?:=by intro c;unfold ah;rw[hb];rfl
 have W:∀x,az (D.set h (.box b ts')) x+(ts.flatMap ownR).count x=az D x+(ts'.flatMap ownR).count x:=by intro x;have X:=aE ownBl (.box b ts') x D h _ hb;simp only[ownBl,CU]at X;unfold az;omega
 have le:∀x,az (D.set h (.box b ts')) x+aq P' x≤az D x+aq P x:=by intro x;have X:=W x;have h2:=B.cnt x;omega
 have fr:∀{u:Nat}{s:DSl}{v:DT},D[u]?=some s→v∈af s→∀x∈bl v,x<w.heap.size→w'.heap[x]?=w.heap[x]?:=by intro u s v hs hv x R C;refine B.same x C ?_;rintro rfl;exact I.box_root hb hs hv R
 have lies:∀{b':Nat×Nat}{l:List DT},b'.1≠b.1→Lies w b' l→Lies w' b' l:=by rintro b' l M ⟨o,e',f,X,h2⟩;exact⟨o,e',f,by rw[B.same _ (ci X) M];exact X,h2⟩
 refine⟨by have:=I.size;simpa using this,?_,?_,?_,B.pend,fun x=>CH (le x) (I.once x),?_,?_⟩
 ·intro u s hs;by_cases N:u=h
  ·subst N;rw[B1 C]at hs;cases hs;exact I.val u _ hb
  ·rw[B3 (fun g=>N g.symm)]at hs;have O:=BR hs;have hv:=I.val u s hs;have nd:∀j o st d z n,jd j o st s→b6 D j o st d z n→b6 (D.set h (.box b ts')) j o st d z n:=by
    rintro j o st d z n hsp ⟨t,F,G,U⟩;by_cases e:j=h
    ·subst e;rw[y]at F;rcases B.keep o t F G with g|⟨_,g⟩
     ·exact⟨t,by rw[q];exact g,G,U⟩
     ·exact absurd hsp (g s O st)
    ·exact⟨t,by rw[m j o e];exact F,G,U⟩
   have bx:∀(j:Nat)(L:Nat×Nat)(l:List DT),D[j]?=some (.box L l)→∃l',(D.set h (.box b ts'))[j]?=some (.box L l'):=by
    intro j L l S;by_cases e:j=h
    ·subst e;rw[hb]at S;cases S;exact⟨ts',B1 C⟩
    ·exact⟨l,by rw[B3 (fun g=>e g.symm)];exact S⟩
   cases s with
   |al j c st lo len =>obtain⟨d,z,n,a,F,G⟩:=hv;exact⟨d,z,n,a,nd j c st d z n ⟨rfl,rfl,rfl⟩ F,G⟩
   |pe j c st i off =>obtain⟨d,z,n,F,G⟩:=hv;exact⟨d,z,n,nd j c st d z n ⟨rfl,rfl,rfl⟩ F,G⟩
   |pb j off =>obtain⟨L,l,F,G⟩:=hv;obtain⟨l',U⟩:=bx _ _ _ F;exact⟨L,l',U,G⟩
   |clo f hs =>obtain⟨bs,F,G,U⟩:=hv;exact⟨bs,F,fun i h b hi hb=>by obtain⟨l,k4⟩:=G i h b hi hb;exact bx _ _ _ k4,U⟩
   |_=>exact hv
 ·intro s hs;obtain⟨u,hu⟩:=BX hs;by_cases N:u=h
  ·subst N;rw[B1 C]at hu;cases hu;exact⟨B.holds,B.ownT,B.lies,by rw[B.len];exact B.free⟩
  ·rw[B3 (fun g=>N g.symm)]at hu;have Y:=I.mem s (BR hu);have H:=I.kind s (BR hu);refine⟨fun v hv=>(Y.1 v hv).frame (fr hu hv),fun v hv ho=>?_,?_⟩
   ·have F0:v∈af s:=by cases s<;>simp_all[rootsO,af]
    exact(Y.2.1 v hv ho).frame (fr hu F0)
   ·cases s with
    |box L l =>
     have M:L.1≠b.1:=fun g=>I.apart N hu hb (b:=b.1) (by simp[ownBl,g]) (by simp[ownBl])
     obtain⟨F,G⟩:=Y.2.2;exact⟨lies M F,fun o e' lo hi A=>by rw[B.same _ F.lt M]at A;exact G o e' lo hi A⟩
    |im k L l off =>
     refine lies ?_ Y.2.2;intro K;cases k with
     |own=>exact H
     |far=>exact Cx.far_not H.1 (by rw[K];exact(I.box_may hb).1)
     |lent j o fl =>
      rcases H with⟨_,Q,_⟩|⟨V,A,J,Q,g4⟩
      ·exact Cx.keep_not Q (by rw[K];exact(I.box_may hb).1)
      rw[K]at Q;exact I.box_tree hb A J Q
    |fni f caps=>exact fun p hp=>lies (fun K=>Cx.far_not (H p hp).1 (by rw[K];exact(I.box_may hb).1)) (Y.2.2 p hp)
    |_=>trivial
 ·intro s hs;obtain⟨u,hu⟩:=BX hs;by_cases N:u=h
  ·subst N;rw[B1 C]at hu;cases hu;exact B.kind
  ·rw[B3 (fun g=>N g.symm)]at hu;have O:=BR hu;have H:=I.kind s O;have cc:∀j o t,jC j o s→ah D j o=some t→t.isOwn=true→ah (D.set h (.box b ts')) j o=some t:=by
    intro j o t hn A J;by_cases e:j=h
    ·subst e;rw[y]at A;rcases B.keep o t A J with g|⟨g,_⟩
     ·rw[q];exact g
     ·exact absurd hn (g s O)
    ·rw[m j o e];exact A
   have kt:∀v∈rootsO s,aB cx D v→aB cx (D.set h (.box b ts')) v:=by
    intro v hv Z;cases v with
    |v x=>trivial
    |any=>trivial
    |s k d z r =>
     cases k with
     |own=>trivial
     |far=>exact Z
     |lent j o fl =>
      rcases Z with⟨A,J⟩|⟨V,A,J,Q⟩
      ·exact .inl ⟨by simpa using A,J⟩
      ·exact .inr ⟨V,cc j o V (.inr ⟨fl,d,z,r,hv⟩) A J,J,Q⟩
   cases s with
   |im k L l off =>
    cases k with
    |own=>exact H
    |far=>exact H
    |lent j o fl =>
     rcases H with⟨A,J⟩|⟨V,A,J,Q⟩
     ·exact .inl ⟨by simpa using A,J⟩
     ·exact .inr ⟨V,cc j o V (.inl ⟨fl,L,l,off,rfl⟩) A J,J,Q⟩
   |fni f caps=>exact H
   |any=>exact fun v hv=>by simp[af]at hv
   |al=>exact fun v hv=>by simp[af]at hv
   |pe=>exact fun v hv=>by simp[af]at hv
   |pb=>exact fun v hv=>by simp[af]at hv
   |clo=>exact fun v hv=>by simp[af]at hv
   |one x=>exact fun v hv=>kt v hv (H v hv)
   |agg x=>exact fun v hv=>kt v hv (H v hv)
   |box b x=>exact fun v hv=>kt v hv (H v hv)
   |tup x=>exact fun v hv=>kt v hv (H v hv)
 ·intro x R;have:=I.bnd x (Cr R (le x));exact⟨this.1,Cr this.2 B.size⟩
 ·refine⟨B.os.trans I.frame.os,B.tape.trans I.frame.tape,B.output.trans I.frame.output,CH I.frame.size B.size,fun x R=>?_⟩;rw[B.same x (Cr R.1 I.frame.size) (fun g=>Cx.keep_not R (by rw[g];exact(I.box_may hb).1))];exact I.frame.same x R
structure Got (cx:Cx)(D:DSt)(w:World)(P:List (DT×Value))(ts:List DT)(ys:List Value):Prop where
 v:VCells ts ys
 holds:∀t∈ts,Holds w t
 own:∀t∈ts,t.isOwn=true→OwnT w t
 kind:∀t∈ts,aB cx D t
 cnt:∀b,(ts.flatMap ownR).count b≤aq P b
section
variable  {δ β : Type}
def T.noLent:T δ→Bool| .s (.lent _ _ _) _ _ _=>false|_=>true
def cellsCopy (M:Mk δ β)(D:St δ β)(x:Operand):Option (Bool×List (T δ)):=
 match opd M.nil D x with
 |some (.one t)=>some (false,[t])
 |some (.agg ts)=>some (true,ts)
 |some (.al h c st lo len)=>
  if lo=0∨0<len then
   match bg D h c st with
   |some (.s _ d z rows)=>some (false,[.s (.lent h c false) (M.win d lo z) z ((rows.drop lo).take len)])
   |_=>none
  else none
 |_=>none
def cellsTake (M:Mk δ β)(D:St δ β)(x:Operand):Option (Bool×List (T δ)×St δ β):=
 match x with
 | .tmp t =>
  match D[t]? with
  |some (.one u)=>if u.isOwn then some (false,[u],au t D)else none
  |some (.agg ts)=>if ts.all T.noLent then some (true,ts,au t D)else none
  |some (.al h c st lo len)=>
   if lo=0∨0<len then
    match bg D h c st with
    |some (.s .own d z rows)=>(bD (fun _=>some .any) (St.dead (br h c) (qHC h c) D) h c st).map fun D'=>(false,[.s .own (M.win d lo z) z ((rows.drop lo).take len)],D')
    |_=>none
   else none
  |_=>none
 |_=>none
def cellsOf (M:Mk δ β)(D:St δ β)(x:Operand)(tk:Bool):Option (Bool×List (T δ)×St δ β):=if tk then cellsTake M D x else(cellsCopy M D x).map fun p=>(p.1,p.2,D)
end
def aP (g:Bool)(y:Value)(ys:List Value):Prop:=if g then y = .agg ys.toArray else ys=[y]
theorem VCells.one {t:DT}{y:Value}(h:VT t y):VCells [t] [y]:=by
 refine⟨rfl,fun i u v hi hv=>?_⟩;cases i with
 |zero=>simp at hi hv;subst hi;subst hv;exact h
 |succ i=>simp at hi
theorem pz {k:Kd}{d:Dec}{z lo len cap:Nat}{a:Option Addr}{rows:List (List DT)}(c:lo+len≤rows.length)(hcap:rows.length≤d.cap)(hs:d.sp=none)(hc:cap=d.cap-lo)
  (i:lo<d.cap→a=some ⟨d.b,d.o+lo*z,none⟩) (e:lo=0→a=if d.nil then none else some ⟨d.b,d.o,none⟩) (j:d.nil=true→rows=[]) (h:lo=0∨0<len):
  VT (.s k (mkD.win d lo z) z ((rows.drop lo).take len)) (.slice a len cap):=by
 have l:((rows.drop lo).take len).length=len:=by simp;omega
 show Value.slice a len cap = .slice (mkD.win d lo z).addr _ _;rw[Dec.addr_none (d:=mkD.win d lo z) (by simpa[mkD]using hs),l,hc];simp only[mkD];congr 1;by_cases g:lo=0
 ·rw[e g,g];simp
 ·have f:lo<d.cap:=by omega
  rw[i f];have:d.nil=false:=by
   cases hd:d.nil with
   |false=>rfl
   |true=>have:=j hd;rw[this]at c;simp at c;omega
  simp only[this,Ch,CD];rw[Cd (by omega)]
theorem Holds.nilrows {w:World}{k:Kd}{d:Dec}{z:Nat}{rows:List (List DT)}(h:Holds w (.s k d z rows))(a:d.nil=true):rows=[]:=by
 cases h with
 |e=>rfl
 |s _ _ _ _ h _=>rw[a]at h;cases h
theorem Inv.cellsCopy {cx:Cx}{D:DSt}{y:List (DT×Value)}{a:Act}{w:World}(I:Inv cx D y a.tmps w){x:Operand}{g:Bool}{ts:List DT}(e:cellsCopy mkD D x=some (g,ts)):
  ∃ys,Got cx D w [] ts ys∧aP g (a.eval x) ys:=by
 unfold Am.cellsCopy at e;split at e
 ·rename_i t h;cases e;have i:=I.opd h;refine⟨[a.eval x],⟨.one i.val,fun u f=>i.mem.1 u (by simpa[af]using f),fun u f m=>i.mem.2.1 u (by simpa[rootsO]using f) m,fun u f=>i.kind u (by simpa[af]using f),fun b=>?_⟩,rfl⟩;have:=i.noown;simp only[ownBl]at this;simp[this]
 ·rename_i us h;cases e;have i:=I.opd h;obtain⟨cs,A,B⟩:=i.val;refine⟨cs.toList,⟨B,i.mem.1,i.mem.2.1,i.kind,fun b=>?_⟩,by simp[aP,A]⟩;have:=i.noown;simp only[ownBl]at this;simp[this]
 ·rename_i h c st lo len hs;split at e
  ·rename_i j;split at e
   ·rename_i k d z rows o;cases e;have i:=I.opd hs;obtain⟨L,M,n,ad,l,C,F,G,p⟩:=i.val;obtain⟨t,N,q,s,H,v,O,r,J⟩:=I.node l;simp only[bg,s,BU]at o;rw[v]at o;cases o;refine⟨[a.eval x],⟨.one ?_,fun u f=>?_,fun u f m=>?_,fun u f=>?_,fun b=>?_⟩,rfl⟩
    ·rw[F];exact pz (by omega) r.cap J.sp rfl G p r.nilrows j
    ·simp at f;subst f;exact kL (r.win lo len (by omega))
    ·simp at f;subst f;cases m
    ·simp at f;subst f;exact .inr ⟨t,s,H,fun x K=>lD st v x (by have:=pB K;simp only[bv]at this ⊢;exact this),fun h=>by cases h⟩
    ·simp[ownR,T.isOwn]
   ·cases e
  ·cases e
 ·cases e
theorem gQ {p:Nat→Nat→Bool}{q:Nat→Nat→Bool→Bool}{h c:Nat}(y:p h c=true){D:DSt}:∀s∈St.dead p q D,¬jC h c s∧((∀b,q h c b=true)→∀st,¬jd h c st s)∧((q h c true=true)→∀st,jd h c st s→st=[]):=by
 intro s hs;obtain⟨u,L,rfl⟩:=B7.1 hs;have A:∀(v:DT) a d z r,v.dead p ≠ .s (.lent h c a) d z r:=by
  intro v a d z r;cases v with
  |v x=>simp[T.dead]
  |any=>simp[T.dead]
  |s k M N O =>
   cases k with
   |own=>simp[T.dead]
   |far=>simp[T.dead]
   |lent m n B =>
    simp only[T.dead];by_cases e:p m n=true
    ·rw[BZ e];simp
    ·rw[Cd e];intro g;cases g;exact e y
 have ts:∀(l:List DT) a d z r,(.s (.lent h c a) d z r:DT)∉l.map (T.dead p):=by intro l a d z r C;obtain⟨v,_,hv⟩:=B7.1 C;exact A v a d z r hv
 have none:∀(s:DSl),(∀k b l off,s ≠ .im k b l off)→rootsO s=[]→¬jC h c s:=by
  rintro s F G (⟨a,b,t,o,g⟩|⟨a,d,z,r,g⟩)
  ·exact F _ _ _ _ g
  ·rw[G]at g;cases g
 cases u with
 |any=>exact⟨none _ (by simp[Sl.dead]) rfl,fun _ st g=>g.elim,fun _ st g=>g.elim⟩
 |one v=>exact⟨by rintro(⟨a,b,t,o,g⟩|⟨a,d,z,r,g⟩);(· simp[Sl.dead]at g);(· exact ts [v] a d z r g),fun _ st g=>g.elim,fun _ st g=>g.elim⟩
 |agg l=>exact⟨by rintro(⟨a,b,t,o,g⟩|⟨a,d,z,r,g⟩);(· simp[Sl.dead]at g);(· exact ts l a d z r g),fun _ st g=>g.elim,fun _ st g=>g.elim⟩
 |box b l=>exact⟨by rintro(⟨a,b,t,o,g⟩|⟨a,d,z,r,g⟩);(· simp[Sl.dead]at g);(· exact ts l a d z r g),fun _ st g=>g.elim,fun _ st g=>g.elim⟩
 |tup rs =>
  refine⟨?_,fun _ st g=>g.elim,fun _ st g=>g.elim⟩;rintro(⟨a,b,t,o,g⟩|⟨a,d,z,r,g⟩)
  ·simp[Sl.dead]at g
  ·simp only[Sl.dead,rootsO,B5,B7]at g;obtain⟨p,⟨H,y,rfl⟩,g⟩:=g;exact ts H.2 a d z r (by simpa using g)
 |al m n j lo len =>
  simp only[Sl.dead];by_cases e:q m n (!j.isEmpty)=true
  ·rw[BZ e];exact⟨none _ (by simp) rfl,fun _ st g=>g.elim,fun _ st g=>g.elim⟩
  ·rw[Cd e];refine⟨none _ (by simp) rfl,fun w st g=>e (by rw[g.1,g.2.1];exact w _),fun w st g=>?_⟩;rw[g.1,g.2.1]at e;rw[←g.2.2];cases j with
   |nil=>rfl
   |cons x l=>exact absurd w e
 |pe m n j i off =>
  simp only[Sl.dead];by_cases e:q m n (!j.isEmpty)=true
  ·rw[BZ e];exact⟨none _ (by simp) rfl,fun _ st g=>g.elim,fun _ st g=>g.elim⟩
  ·rw[Cd e];refine⟨none _ (by simp) rfl,fun w st g=>e (by rw[g.1,g.2.1];exact w _),fun w st g=>?_⟩;rw[g.1,g.2.1]at e;rw[←g.2.2];cases j with
   |nil=>rfl
   |cons x l=>exact absurd w e
 |pb m off=>exact⟨none _ (by simp[Sl.dead]) rfl,fun _ st g=>g.elim,fun _ st g=>g.elim⟩
 |clo f I=>exact⟨none _ (by simp[Sl.dead]) rfl,fun _ st g=>g.elim,fun _ st g=>g.elim⟩
 |fni f caps=>exact⟨none _ (by simp[Sl.dead]) rfl,fun _ st g=>g.elim,fun _ st g=>g.elim⟩
 |im k b l off =>
  simp only[Sl.dead];split
  ·rename_i m n J;by_cases e:p m n=true
   ·rw[BZ e];exact⟨none _ (by simp) rfl,fun _ st g=>g.elim,fun _ st g=>g.elim⟩
   ·rw[Cd e];refine⟨?_,fun _ st g=>g.elim,fun _ st g=>g.elim⟩;rintro(⟨a,b,t,o,g⟩|⟨a,d,z,r,g⟩)
    ·cases g;exact e y
    ·cases g
  ·rename_i K;refine⟨?_,fun _ st g=>g.elim,fun _ st g=>g.elim⟩;rintro(⟨a,b,t,o,g⟩|⟨a,d,z,r,g⟩)
   ·cases g;exact K _ _ _ rfl
   ·cases g
theorem j7 {h c:Nat}{D:DSt}:∀s∈St.dead (br h c) (qHC h c) D,¬jC h c s∧∀st,¬jd h c st s:=fun s hs =>⟨(gQ (p:=br h c) (q:=qHC h c) (by simp[br]) s hs).1,(gQ (p:=br h c) (q:=qHC h c) (by simp[br]) s hs).2.1 (fun b=>by simp[qHC])⟩
theorem ik:∀(ts:List DT)(ys:List Value),ts.length=ys.length→∀b,aq (ts.zip ys) b=(ts.flatMap ownR).count b
 |[],_,_,b=>rfl
 |t::ts,[],h,b=>by simp at h
 |t::ts,y::ys,h,b=>by simp only[List.zip_cons_cons,eT,B9,Ce];rw[ik ts ys (by simpa using h) b]
theorem q9 {α:Type}(f:α→List Nat)(b:Nat){l l':List α}(h:l.Sublist l'):(l.flatMap f).count b≤(l'.flatMap f).count b:=by
 induction h with
 |slnil=>exact Cz _
 |cons a h c=>simp only[B9,Ce];omega
 |cons_cons a h c=>simp only[B9,Ce];omega
theorem ku {k k':Kd}{d:Dec}{z:Nat}(rows:List (List DT))(l n b:Nat):(bl (.s k (mkD.win d l z) z ((rows.drop l).take n))).count b≤(bl (.s k' d z rows)).count b:=by
 rw[bv,bv,Ce,Ce];have c:(((rows.drop l).take n).flatMap fun x=>x.flatMap bl).count b≤(rows.flatMap fun x=>x.flatMap bl).count b:=by exact q9 _ b ((List.take_sublist _ _).trans (DG _ _))
 have a:(if(mkD.win d l z).nil=true then []else [(mkD.win d l z).b])=(if d.nil=true then []else [d.b]):=rfl;rw[a];omega
theorem OwnT.win {w:World}{d:Dec}{z:Nat}{rows:List (List DT)}(h:OwnT w (.s .own d z rows))(l n:Nat)(m:l+n≤rows.length):
  OwnT w (.s .own (mkD.win d l z) z ((rows.drop l).take n)):=by
 cases h with
 |nil _ _ f hs hc =>simp;exact .nil _ _ (by simpa[mkD]using f) (by simpa[mkD]using hs) (by simp[mkD,hc])
 |s _ _ _ h hsp c e lo hi hb hcap hroom hf hh =>
  have a:∀(i:Nat)(row:List DT),((rows.drop l).take n)[i]?=some row→rows[l+i]?=some row:=by
   intro i row hi;rw[CR]at hi;split at hi
   ·rw[CG]at hi;exact hi
   ·cases hi
  have g:(mkD.win d l z).o+(mkD.win d l z).cap*z≤d.o+d.cap*z∧d.o≤(mkD.win d l z).o:=by
   simp only[mkD];split
   ·rename_i hc;rw[hc];simp
   ·rw[Nat.sub_mul];have:l*z≤d.cap*z:=CV _ (by omega);omega
  refine .s _ _ _ (by simpa[mkD]using h) (by simpa[mkD]using hsp) c e lo hi (by simpa[mkD]using hb) (by simp[mkD];omega) (by omega) ?_ ?_
  ·intro x p q;exact hf x (by omega) (by omega)
  ·intro i row j t b k;exact hh _ row j t (a i row b) k
theorem po {D:DSt}{h c:Nat}{t t':DT}(hc:ah D h c=some t):∃D',cT D h c t'=some D':=by unfold ah at hc;simp only[BT]at hc;obtain⟨cs,⟨s,hs,a⟩,_⟩:=hc;exact⟨D.set h (setCells (cs.set c t') s),by unfold cT;rw[hs];simp only[a,BQ]⟩
theorem Inv.bl_once {cx:Cx}{D:DSt}{P:List (DT×Value)}{tm:Array Value}{w:World}(I:Inv cx D P tm w){h c:Nat}{t:DT}(hc:ah D h c=some t)(d:t.isOwn=true)(b:Nat):(bl t).count b≤1:=by
 unfold ah at hc;simp only[BT]at hc;obtain⟨cs,⟨s,hs,a⟩,e⟩:=hc;have i:=I.cells_once hs a b;have f:=aE ownR (T.any:DT) b cs c t e;have j:(ownR (T.any:DT)).count b=0:=rfl;have g:ownR t=bl t:=by simp[ownR,d]
 rw[g]at f;omega
theorem Inv.cellsTakeP {cx:Cx}{D:DSt}{B:List (DT×Value)}{a:Act}{w:World}(I:Inv cx D B a.tmps w){x:Operand}{g:Bool}{ts:List DT}{D':DSt}(e:cellsTake mkD D x=some (g,ts,D')):
  ∃ys P,Inv cx D' (P++B) a.tmps w∧Got cx D' w P ts ys∧aP g (a.eval x) ys:=by
 unfold Am.cellsTake at e;split at e
 ·rename_i t;split at e
  ·rename_i u hu;split at e
   ·rename_i X;cases e;have hv:=I.val t _ hu;have J:=I.mem _ (BR hu);have hT:=Inv.take I (P:=B) (cs:=[(u,a.tmps.getD t undef)]) hu (fun p hp=>by rw[B4]at hp;subst hp;exact⟨by simp[rootsO],by simp[af],hv⟩)
     (fun p hp h c K d z r g=>by simp at hp;subst hp;simp only at g;rw[g]at X;cases X) (fun b=>by rw[eT,a6];exact Cz _) (by simp) (by simp)
    refine⟨[a.tmps.getD t undef],_,hT,⟨.one hv,fun v f=>by simp at f;subst f;exact J.1 _ (by simp[af]),fun v f _=>by simp at f;subst f;exact J.2.1 _ (by simp[rootsO]) X,fun v f=>?_,fun b=>?_⟩,rfl⟩
    ·simp at f;subst f;cases v with
     |v x=>trivial
     |any=>trivial
     |s k d z r=>cases k<;>first|trivial|(simp[T.isOwn]at X)
    ·simp[aq]
   ·cases e
  ·rename_i us hu;split at e
   ·rename_i L;cases e;have hv:=I.val t _ hu;obtain⟨cs,Y,y⟩:=hv;have J:=I.mem _ (BR hu);have hk:=I.kind _ (BR hu);have M:∀v∈ts,∀h c K d z r,v ≠ .s (.lent h c K) d z r:=by intro v hv h c K d z r g;have:=B2.1 L v hv;rw[g]at this;simp[T.noLent]at this
    have hT:=Inv.take I (cs:=ts.zip cs.toList) hu (fun p hp=>by obtain⟨i,hi⟩:=BX hp;rw[Dr]at hi;exact⟨BR hi.1,BR hi.1,y.2 i _ _ hi.1 hi.2⟩)
     (fun p hp=>M p.1 (List.of_mem_zip hp).1) (fun b=>by rw[ik _ _ y.1];exact Cz _) (by simp) (by simp)
    refine⟨cs.toList,_,hT,⟨y,J.1,J.2.1,fun v hv=>?_,fun b=>?_⟩,by simp only[aP,CI];exact Y⟩
    ·have F0:=hk v hv;have:=M v hv;cases v with
     |v x=>trivial
     |any=>trivial
     |s k d z r =>
      cases k with
      |own=>trivial
      |far=>exact F0
      |lent h c K=>exact absurd rfl (this h c K d z r)
    ·rw[ik _ _ y.1];exact Cz _
   ·cases e
  ·rename_i h c st lo len hu;split at e
   ·rename_i j;split at e
    ·rename_i d z rows hn;rw[BS]at e;obtain⟨D2,C,e⟩:=e;cases e;have hv:=I.val t _ hu;obtain⟨d',z',n,ad,F,F6,Y,ha,O⟩:=hv;obtain⟨t0,k1,F1,Z,A,g3,g4,H,g6⟩:=I.node F;simp only[bg,Z,BU]at hn;rw[g3]at hn;cases hn;have I1:=I.dead (br h c) (qHC h c);have Q:=dt (p:=br h c) (q:=qHC h c) Z A;unfold bD at C;rw[Q,BU,BT]at C;obtain⟨t',G,R⟩:=C;obtain⟨s0,F7,l,F2,S,U⟩:=aO Z;have V:=I.mem s0 l;have hN:NodeOk w w (.s .own d z rows) (.any:DT):=⟨.any,.any,fun _ h=>h.one,fun _ _ _=>rfl⟩
     obtain⟨N,hc,F3,_⟩:=qV hN rfl st (V.1 t0 F2) (V.2.1 t0 S A) (I.bl_once Z A) g3 G;have m:t'.isOwn=true∨t' = .any:=by
      cases st with
      |nil=>right;cases g3;simp[cM]at G;exact G.symm
      |cons p st=>left;exact(F3 (by simp)).1
     have W:∀b,(ownR t').count b+(bl (.s .own d z rows)).count b≤(ownR t0).count b:=by
      intro b;have h1:=hc b;have h0:(bl (.any:DT)).count b=0:=rfl;have h2:ownR t0=bl t0:=by simp[ownR,A]
      rw[h2];rcases m with h3|h3
      ·have:ownR t'=bl t':=by simp[ownR,h3]
       rw[this];omega
      ·subst h3;have:(ownR (.any:DT)).count b=0:=rfl;omega
     have IU:=I1.upd (P':=(.s .own (mkD.win d lo z) z ((rows.drop lo).take len),a.tmps.getD t undef)::B) (w':=w) R
      {at_:=Q,own:=A,holds:=N.holds,ownT:=fun _=>N.own,kind:=m,val:=N.val,
       cnt:=fun b=>by
        rw[eT];have h1:=W b;have h2:=ku (k := .own) (k' := .own) (d:=d) (z:=z) rows lo len b;have h3:ownR (.s .own (mkD.win d lo z) z ((rows.drop lo).take len):DT)=bl (.s .own (mkD.win d lo z) z ((rows.drop lo).take len)):=by simp[ownR,T.isOwn]
        rw[h3];split
        ·omega
        ·rename_i F4;have hz:¬ 0<az D b+aq B b:=fun q=>F4 (I.bnd b q).2
         have h7:(ownR t0).count b=0:=by
          rcases CE ((ownR t0).count b)with q|q
          ·exact q
          ·have h5:ownR t0=bl t0:=by simp[ownR,A]
           rw[h5]at q;have:=a8 l (b:=b) (U A b (B8.1 q));omega
         show(ownR t').count b+((bl (.s .own (mkD.win d lo z) z ((rows.drop lo).take len):DT)).count b+aq B b)≤1;omega,
       new:=fun b hb o=>by
        exfalso;rw[eT]at o;have hz:¬ 0<az D b+aq B b:=fun q=>by have:=(I.bnd b q).2;omega
        have h1:=W b;have h2:=ku (k := .own) (k' := .own) (d:=d) (z:=z) rows lo len b;have h3:ownR (.s .own (mkD.win d lo z) z ((rows.drop lo).take len):DT)=bl (.s .own (mkD.win d lo z) z ((rows.drop lo).take len)):=by simp[ownR,T.isOwn]
        rw[h3]at o;have F5:0<(ownR t').count b+((bl (.s .own (mkD.win d lo z) z ((rows.drop lo).take len):DT)).count b+aq B b):=o;have h6:0<(ownR t0).count b:=by omega
        have h7:=a8 l (b:=b) (U A b (by have h5:ownR t0=bl t0:=(by simp[ownR,A]);rw[h5]at h6;exact B8.1 h6));have:=(I.bnd b (by omega)).2;omega,
       hides:=fun s hs=>(j7 s hs).1,
       speak:=fun s hs st hsp=>absurd hsp ((j7 s hs).2 st),
       size:=Cz _,same:=fun _ _ _=>rfl,os:=rfl,tape:=rfl,output:=rfl,
       pend:=fun p hp=>by
        rcases Cq.1 hp with hp|hp
        case inr=>exact I.pend p hp
        subst hp;refine⟨?_,H.win lo len (by omega),fun _=>g6.win lo len (by omega),fun h=>by cases h⟩;show VT _ (a.tmps.getD t undef);rw[Y];exact pz (by omega) H.cap g6.sp rfl ha O H.nilrows j }
     refine⟨[a.tmps.getD t undef],[(.s .own (mkD.win d lo z) z ((rows.drop lo).take len),a.tmps.getD t undef)],IU,⟨.one ?_,fun v hv=>?_,fun v hv _=>?_,fun v hv=>?_,fun b=>?_⟩,rfl⟩
     ·rw[Y];exact pz (by omega) H.cap g6.sp rfl ha O H.nilrows j
     ·simp at hv;subst hv;exact H.win lo len (by omega)
     ·simp at hv;subst hv;exact g6.win lo len (by omega)
     ·simp at hv;subst hv;trivial
     ·simp[aq]
    ·cases e
   ·cases e
  ·cases e
 ·cases e
theorem Inv.cellsTake {cx:Cx}{D:DSt}{a:Act}{w:World}(I:Inv cx D [] a.tmps w){x:Operand}{g:Bool}{ts:List DT}{D':DSt}(e:cellsTake mkD D x=some (g,ts,D')):
  ∃ys P,Inv cx D' P a.tmps w∧Got cx D' w P ts ys∧aP g (a.eval x) ys:=by
 obtain⟨ys,P,b,c,d⟩:=I.cellsTakeP e;rw[Cp]at b;exact⟨ys,P,b,c,d⟩
section
variable  {δ β : Type}
def cU:Bool→List (T δ)→Option (Sl δ β)|true,ts=>some (.agg ts)|false,[t]=>some (.one t)|false,_=>none
end
theorem Got.grew {cx:Cx}{D:DSt}{w w':World}{P:List (DT×Value)}{ts:List DT}{ys:List Value}(h:Got cx D w P ts ys)(g:Grew w w'):Got cx D w' P ts ys :=
 ⟨h.v,fun t a=>(h.holds t a).frame fun b _ hb=>g.same b hb,fun t a c=>(h.own t a c).frame fun b _ hb=>g.same b hb,h.kind,h.cnt⟩
theorem xE {cx:Cx}{D:DSt}{w:World}{P:List (DT×Value)}{g:Bool}{ts:List DT}{ys:List Value}{y:Value}{s:DSl}(G:Got cx D w P ts ys)(hv:aP g y ys)(hs:cU g ts=some s):
  VS D s y∧MemS w s∧bZ cx D s∧∀b,(ownBl s).count b≤aq P b:=by
 unfold cU at hs;split at hs
 ·cases hs;refine⟨⟨ys.toArray,by simpa[aP]using hv,by simpa using G.v⟩,⟨G.holds,G.own,trivial⟩,G.kind,G.cnt⟩
 ·rename_i t;cases hs;have c:ys=[y]:=by simpa[aP]using hv
  subst c;refine⟨G.v.2 0 t y rfl rfl,⟨fun u a=>G.holds u (by simpa[af]using a),fun u a=>G.own u (by simpa[rootsO]using a),trivial⟩,fun u a=>G.kind u (by simpa[af]using a),fun b=>?_⟩;have:=G.cnt b;simpa[ownBl]using this
 ·cases hs
theorem Inv.putGot {cx:Cx}{D:DSt}{P:List (DT×Value)}{a:Act}{w:World}(I:Inv cx D P a.tmps w){g:Bool}{ts:List DT}{ys:List Value}{y:Value}{s:DSl}(G:Got cx D w P ts ys)
  (hv:aP g y ys) (hs:cU g ts=some s) {dst:Option Nat} (b:∀t,dst=some t→t<D.length) (hd:dst.isSome=true):Inv cx (av D dst s) [] (a.put dst y).tmps w:=by
 obtain⟨c,d,e,f⟩:=xE G hv hs;cases dst with
 |none=>cases hd
 |some t=>exact Inv.put (P:=P) (Q:=[]) (by rw[Cp];exact I) (b t rfl) c d e f
theorem Inv.fresh {cx:Cx}{D:DSt}{P:List (DT×Value)}{tm:Array Value}{w w':World}(I:Inv cx D P tm w)(hs:w.heap.size<w'.heap.size):
  ∀b,0<(if b=w.heap.size then 1 else 0)→(if b=w.heap.size then 1 else 0)≤1∧az D b+aq P b=0∧cx.may b∧b<w'.heap.size:=by
 intro b hb;split at hb
 ·rename_i e;subst e;refine⟨by simp,?_,.inl I.frame.size,hs⟩;rcases CE (az D w.heap.size+aq P w.heap.size)with g|g
  ·exact g
  ·have:=(I.bnd _ g).2;omega
 ·cases hb
theorem Inv.newBox {cx:Cx}{D:DSt}{P:List (DT×Value)}{a:Act}{w:World}(I:Inv cx D P a.tmps w){ts:List DT}{ys:List Value}(G:Got cx D w P ts ys)(e:TypeId)
  {t:Nat} (k:t<D.length):Inv cx (av D (some t) (.box (w.heap.size,0) ts)) [] (a.put (some t) (.pointer (some ⟨w.heap.size,0,none⟩))).tmps (w.alloc (.cells ys.toArray e)):=by
 have g:=Grew.alloc w (.cells ys.toArray e);have l:=I.grew g;have d:(w.alloc (.cells ys.toArray e)).heap[w.heap.size]?=some (.cells ys.toArray e (0,0)):=by show(w.heap.push _)[w.heap.size]?=_;simp
 refine Inv.putF (P:=P) (Q:=[]) (by rw[Cp];exact l) (fun b=>if b=w.heap.size then 1 else 0)
  (by rw[Cp];exact I.fresh (by simp)) k rfl ⟨(G.grew g).holds,(G.grew g).own,?_⟩ (G.kind) ?_
 ·refine⟨⟨ys.toArray,e,(0,0),d,fun j u i=>?_⟩,fun c m lo hi hc x n o=>?_⟩
  ·have f:j<ys.length:=by
    rw[←G.v.1];rcases BY j ts.length with g|g
    ·exact g
    ·rw[BV g]at i;cases i
   exact⟨ys[j],by simp[f],G.v.2 j u _ i (BW f)⟩
  ·simp only at hc;rw[d]at hc;cases hc;omega
 ·intro b;have:=G.cnt b;simp only[ownBl,CU];split<;>rename_i hb
  ·simp at hb;subst hb;simp;omega
  ·have:¬b=w.heap.size:=fun h=>hb (by simp[h])
   simp[this];omega
theorem Inv.newRows {cx:Cx}{D:DSt}{P:List (DT×Value)}{a:Act}{w w':World}(I:Inv cx D P a.tmps w)(g:Grew w w')(hs:w.heap.size<w'.heap.size){d:Dec}{z:Nat}{rows:List (List DT)}
  (hd:d.b=w.heap.size∧d.nil=false) (e:Holds w' (.s .own d z rows)) (f:OwnT w' (.s .own d z rows))
  (hc:∀b,(rows.flatMap fun x=>x.flatMap bl).count b≤aq P b) {t:Nat} (i:t<D.length) {y:Value} (j:VT (.s .own d z rows) y):
  Inv cx (av D (some t) (.one (.s .own d z rows))) [] (a.put (some t) y).tmps w':=by
 refine Inv.putF (P:=P) (Q:=[]) (by rw[Cp];exact I.grew g) (fun b=>if b=w.heap.size then 1 else 0)
  (by rw[Cp];exact I.fresh hs) i j ⟨fun u c=>by simp[af]at c;subst c;exact e,fun u c _=>by simp[rootsO]at c;subst c;exact f,trivial⟩
  (fun u c=>by simp[af]at c;subst c;trivial) ?_
 intro b;have l:=hc b;have k:ownBl (.one (.s .own d z rows):DSl)=d.b::rows.flatMap fun x=>x.flatMap bl:=by simp[ownBl,ownR,T.isOwn,bv,hd.2]
 rw[k,CU];split<;>rename_i hb
 ·simp at hb;subst hb;rw[hd.1]at *;simp;omega
 ·have:¬b=w.heap.size:=fun h=>hb (by rw[hd.1,h];simp)
  simp[this];omega
section
variable  {δ β : Type}
def T.inj (nil:δ):T Unit→T δ| .v x=>.v x| .any=>.any| .s k _ z _=>.s k nil z []
def am {α:Type}(l:List α)(o:Nat)(new:List α):List α:=l.take o++new++l.drop (o+new.length)
end
theorem bS {α:Type}{l:List α}{o:Nat}{new:List α}(h:o+new.length≤l.length)(i:Nat):
  (am l o new)[i]?=if i<o then l[i]? else if i<o+new.length then new[i-o]? else l[i]?:=by
 unfold am;have b:(l.take o).length=o:=by simp;omega
 by_cases hi:i<o
 ·rw[BZ hi,List.append_assoc,CA (by omega),CR,BZ hi]
 ·rw[Cd hi,List.append_assoc,Cy (by omega),b];by_cases a:i<o+new.length
  ·rw[BZ a,CA (by omega)]
  ·rw[Cd a,Cy (by omega),CG];congr 1;omega
theorem fh {α:Type}{l:List α}{o:Nat}{new:List α}(h:o+new.length≤l.length):(am l o new).length=l.length:=by unfold am;simp;omega
theorem VCells.splice {ts ts':List DT}{ys b:List Value}(h:VCells ts ys)(e:VCells ts' b){o:Nat}(f:o+ts'.length≤ts.length):VCells (am ts o ts') (am ys o b):=by
 have g:=h.1;have j:=e.1;refine⟨by rw[fh f,fh (by omega)];exact g,fun i t y hi a=>?_⟩;rw[bS f]at hi;rw[bS (by omega)]at a;rw[←j]at a;split at hi
 ·rename_i c;rw[BZ c]at a;exact h.2 i t y hi a
 ·rename_i c;rw[Cd c]at a;split at hi
  ·rename_i d;rw[BZ d]at a;exact e.2 _ t y hi a
  ·rename_i d;rw[Cd d]at a;exact h.2 i t y hi a
theorem cG {α:Type}{l new:List α}{o:Nat}{x:α}(h:x∈am l o new):x∈l∨x∈new:=by
 unfold am at h;simp only[Cm]at h;rcases h with(h|h)|h
 ·exact .inl (C6 h)
 ·exact .inr h
 ·exact .inl (CT h)
theorem iS {α:Type}(f:α→List Nat)(l new:List α)(o b:Nat):((am l o new).flatMap f).count b≤(l.flatMap f).count b+(new.flatMap f).count b:=by
 unfold am;simp only[CZ,Ce];have h:((l.take o).flatMap f).count b+((l.drop (o+new.length)).flatMap f).count b≤(l.flatMap f).count b:=by
  have a:=q9 f b (l:=l.take o++l.drop (o+new.length)) (l':=l) (by
   conv=>rhs;rw[←List.take_append_drop o l]
   refine List.Sublist.append_left ?_ _;rw[←DY];exact DG _ _)
  simpa[CZ,Ce]using a
 omega
theorem rk:∀(a:List Value)(k:Nat)(off:Nat)(cells:Array Value),off+k+a.length≤cells.size →
  ((a.zipIdx k).foldl (fun(cs:Array Value)(p:Value×Nat)=>cs.setIfInBounds (off+p.2) p.1) cells).toList=am cells.toList (off+k) a
 |[],k,off,cells,h=>by simp[am]
 |v::a,k,off,cells,h=>by
  simp only[List.zipIdx_cons,Cw];simp only[Dk]at h;rw[rk a (k+1) off _ (by simp;omega)];apply CP;intro i;rw[bS (by simp;omega),bS (by simp;omega)];simp only[D7,Dk];by_cases b:i<off+k
  ·rw[BZ (show i<off+(k+1) by omega),BZ b,B3 (by omega)]
  ·by_cases d:i=off+k
   ·subst d;rw[BZ (show off+k<off+(k+1) by omega),Cd b,BZ (show off+k<off+k+(a.length+1) by omega),
     B1 (by simp;omega)]
    simp
   ·by_cases c:i<off+k+(a.length+1)
    ·rw[Cd (show ¬i<off+(k+1) by omega),BZ (show i<off+(k+1)+a.length by omega),Cd b,BZ c];obtain⟨j,e⟩:∃j,i-(off+k)=j+1:=⟨i-(off+k)-1,by omega⟩
     rw[e,C7];congr 1;omega
    ·rw[Cd (show ¬i<off+(k+1) by omega),Cd (show ¬i<off+(k+1)+a.length by omega),Cd b,Cd c,B3 (by omega)]
theorem cD (v:Array Value)(off:Nat)(cells:Array Value)(h:off+v.size≤cells.size):
  (v.zipIdx.foldl (fun(cs:Array Value)(p:Value×Nat)=>cs.setIfInBounds (off+p.2) p.1) cells)=(am cells.toList off v.toList).toArray:=by
 have:=rk v.toList 0 off cells (by simpa using h);apply Array.ext';rw[←Array.foldl_toList,Array.toList_zipIdx,this];simp
theorem em {P:Program}{t:TypeId}{w:World}{cx:Cx}{D:DSt}{ys:List Value}(h:ys.all (·.oneCell')=true):Got cx D w [] ((bG P t ys).map (T.inj nilD)) ys:=by
 have one:∀n y,y.oneCell'=true→VT ((zT n y).inj nilD) y∧Holds w ((zT n y).inj nilD)∧OwnT w ((zT n y).inj nilD)∧aB cx D ((zT n y).inj nilD)∧bl ((zT n y).inj nilD)=[]:=by
  intro n y hy;unfold zT;split
  ·exact⟨rfl,.e _ _ _,.nil _ _ rfl rfl rfl,trivial,by simp[T.inj,bv,nilD]⟩
  ·exact⟨⟨rfl,hy⟩,.v _,.v _,trivial,rfl⟩
 have all:∀u∈(bG P t ys).map (T.inj nilD),∃n,∃y∈ys,u=(zT n y).inj nilD:=by intro u a;simp only[B7,bG,CS]at a;obtain⟨u',⟨j,c,rfl⟩,rfl⟩:=a;exact⟨_,ys[j],Dt c,rfl⟩
 rw[B2]at h;refine⟨⟨by simp[bG],fun i u y hi hy=>?_⟩,fun u a=>?_,fun u a _=>?_,fun u a=>?_,fun b=>?_⟩
 ·simp only[bG,B6,Dg,hy,BQ,Ck]at hi;subst hi;exact(one _ y (h y (BR hy))).1
 ·obtain⟨n,y,hy,rfl⟩:=all u a;exact(one n y (h y hy)).2.1
 ·obtain⟨n,y,hy,rfl⟩:=all u a;exact(one n y (h y hy)).2.2.1
 ·obtain⟨n,y,hy,rfl⟩:=all u a;exact(one n y (h y hy)).2.2.2.1
 ·have:((bG P t ys).map (T.inj nilD)).flatMap ownR=[]:=by rw[Ca];intro u a;obtain⟨n,y,hy,rfl⟩:=all u a;have:=(one n y (h y hy)).2.2.2.2;unfold ownR;split<;>simp[this]
  rw[this];simp
theorem eO (b:Nat)(e:TypeId)(f:Nat×Nat):∀(a:List Value)(o:Nat)(w:World)(c:Array Value),w.heap[b]?=some (.cells c e f)→o+a.length≤c.size →
  (w.setCells b o a).heap[b]?=some (.cells (am c.toList o a).toArray e f)∧(∀x,x≠b→(w.setCells b o a).heap[x]?=w.heap[x]?) ∧
   (w.setCells b o a).heap.size=w.heap.size∧(w.setCells b o a).os=w.os∧(w.setCells b o a).tape=w.tape∧(w.setCells b o a).output=w.output
 |[],o,w,c,h,g=>by refine⟨?_,fun _ _=>rfl,rfl,rfl,rfl,rfl⟩;rw[show w.setCells b o []=w from rfl,h];simp[am]
 |v::a,o,w,c,h,g=>by
  simp only[Dk]at g;have d:(w.setCell ⟨b,o,none⟩ v).heap[b]?=some (.cells (c.setIfInBounds o v) e f):=by simp[World.setCell,DN,h]
  obtain⟨m,n,p,q,r,s⟩:=eO b e f a (o+1) _ _ d (by simp;omega);have hs:w.setCells b o (v::a)=(w.setCell ⟨b,o,none⟩ v).setCells b (o+1) a:=rfl;rw[hs];refine⟨?_,fun x k=>?_,by rw[p];simp[World.setCell],q,r,s⟩
  ·rw[m];congr 2;apply Array.ext';simp only[D7];apply CP;intro i;rw[bS (by simp;omega),bS (by simp;omega)];simp only[Dk];by_cases d:i<o
   ·rw[BZ (show i<o+1 by omega),BZ d,B3 (by omega)]
   ·by_cases t:i=o
    ·subst t;rw[BZ (show i<i+1 by omega),Cd d,BZ (show i<i+(a.length+1) by omega),B1 (by simp;omega)];simp
    ·by_cases l:i<o+(a.length+1)
     ·rw[Cd (show ¬i<o+1 by omega),BZ (show i<o+1+a.length by omega),Cd d,BZ l];obtain⟨j,u⟩:∃j,i-o=j+1:=⟨i-o-1,by omega⟩
      rw[u,C7];congr 1;omega
     ·rw[Cd (show ¬i<o+1 by omega),Cd (show ¬i<o+1+a.length by omega),Cd d,Cd l,B3 (by omega)]
  ·rw[n x k];simp only[World.setCell,DN];rw[Cd (by simpa using fun h=>k h.symm)]
theorem qk {P:Program}{w:World}{b o:Nat}{c:Array Value}{e:TypeId}{lo hi:Nat}(h:w.heap[b]?=some (.cells c e (lo,hi))){ys:List Value}(i:o+ys.length≤c.size)
  (hf:∀x,o≤x→x<o+ys.length→¬(lo≤x∧x<hi)) (a:∀v∈ys,v.oneCell'=true):(storeCells ⟨b,o,none⟩ ys).run P w = .ok () (w.setCells b o ys):=by
 have:=run_storeCells_cells (P:=P) b o ys 0 w (fun j d=>by rw[km h];simp;omega) (fun j d=>by
  simp only[World.frozen?,h,Nat.add_zero];have:=hf (o+j) (by omega) (by omega);simp only[Bool.and_eq_false_iff,Ed];rcases BY (o+j) lo with g|g
  ·left;omega
  ·right;intro f;exact this ⟨g,f⟩) a
 simpa using this
theorem VCells.cells1 {ts:List DT}{ys:List Value}(h:VCells ts ys):∀v∈ys,v.oneCell'=true:=by
 intro v hv;obtain⟨i,hi⟩:=BX hv;have a:i<ts.length:=by
  rw[h.1];rcases BY i ys.length with g|g
  ·exact g
  ·rw[BV g]at hi;cases hi
 exact(h.2 i _ v (BW a) hi).one
theorem oN {P:Program}{t:TypeId}{ti:TI}(a:fU P t=some ti){w:World}{b o:Nat}{c:Array Value}{e:TypeId}{lo hi:Nat}(h:w.heap[b]?=some (.cells c e (lo,hi)))
  {ys:List Value} {y:Value} {g:Bool} (hv:aP g y ys) (d:g=false→y.oneCell'=true) (f:ys.length=ti.size) (i:o+ys.length≤c.size)
  (hf:∀x,o≤x→x<o+ys.length→¬(lo≤x∧x<hi)) (j:∀v∈ys,v.oneCell'=true):
  (Instr.storeAt t (.pointer (some ⟨b,o,none⟩)) y).run P w = .ok () (w.setCells b o ys):=by
 have hc:y.cells=ys.toArray:=by
  cases g with
  |true=>simp only[aP,CI]at hv;rw[hv];rfl
  |false =>simp only[aP,Ch,CD]at hv;subst hv;have:=d rfl;cases y<;>first|rfl|(simp[Value.oneCell']at this)
 have k:=qk (P:=P) h i hf j;simp only[Instr.storeAt,Instr.sureAddr,storeVar,Sem.run_bind,Sem.run_pure,Result.andThen_ok,hc,fN a];simp[f,k]
section
open Go.ChangeShapes Go.Deep
mutual
inductive Ty where|bool|int (k:IntKind)|str|slice (e:Ty)|struct (fs:Fs)
inductive Fs where|nil|cons (t:Ty) (r:Fs)
end
mutual
def Ty.size:Ty→Nat| .struct fs=>fs.size|_=>1
def Fs.size:Fs→Nat| .nil=>0| .cons t r=>t.size+r.size
end
mutual
def Ty.ok (P:Program):Ty→TypeId→Bool
 | .bool,t=>match P.underlying t with|some .bool=>true|_=>false
 | .int k,t=>match P.underlying t with|some (.int k')=>decide (k'=k)|_=>false
 | .str,t=>match P.underlying t with|some .string=>true|_=>false
 | .slice e,t=>match P.underlying t with|some (.slice u)=>Ty.ok P e u&&P.cellsOf u==e.size&&e.size != 0|_=>false
 | .struct fs,t=>match P.underlying t with|some (.struct a)=>Fs.ok P fs a.toList 0&&P.cellsOf t==fs.size|_=>false
def Fs.ok (P:Program):Fs→List Field→Nat→Bool| .nil,[],_=>true| .cons t r,f::fs,off=>f.offset==off&&P.cellsOf f.type==t.size&&Ty.ok P t f.type&&Fs.ok P r fs (off+t.size)|_,_,_=>false
end
mutual
def Shape {δ:Type}:Ty→List (T δ)→Prop| .bool,ts=>∃b,ts=[.v (.bool b)]| .int k,ts=>∃n,ts=[.v (.int k n)]∧(Lit.int k n).wf=true| .str,ts=>∃s,ts=[.v (.string s)]∧s.size≤maxLen| .slice e,ts=>∃d rows,ts=[.s .far d e.size rows]∧rows.length≤maxLen∧∀r∈rows,Shape e r| .struct fs,ts=>ShapeF fs ts
def ShapeF {δ:Type}:Fs→List (T δ)→Prop| .nil,ts=>ts=[]| .cons t r,ts=>∃xs ys,ts=xs++ys∧Shape t xs∧ShapeF r ys
end
structure Reads (w:World)(ts:List DT)(cs:List Value):Prop where
 cells:VCells ts cs
 holds:∀u∈ts,Holds w u
 far:∀u∈ts,u.isOwn=false∧∀b∈bl u,b<w.heap.size
theorem Reads.nil (w:World):Reads w [] []:=⟨⟨rfl,fun i t y h=>by simp at h⟩,fun u h=>by simp at h,fun u h=>by simp at h⟩
theorem Reads.append {w:World}{ts us:List DT}{cs b:List Value}(h:Reads w ts cs)(g:Reads w us b):Reads w (ts++us) (cs++b):=by
 refine⟨⟨by simp[h.cells.1,g.cells.1],fun i t y hi a=>?_⟩,fun u hu=>?_,fun u hu=>?_⟩
 ·rcases BY i ts.length with hl|hl
  ·rw[CA hl]at hi;rw[CA (by rw[←h.cells.1];exact hl)]at a;exact h.cells.2 i t y hi a
  ·rw[Cy hl]at hi;rw[Cy (by rw[←h.cells.1];exact hl), ←h.cells.1]at a;exact g.cells.2 _ t y hi a
 ·rcases Cm.1 hu with hu|hu
  ·exact h.holds u hu
  ·exact g.holds u hu
 ·rcases Cm.1 hu with hu|hu
  ·exact h.far u hu
  ·exact g.far u hu
theorem Reads.one {w:World}{t:DT}{y:Value}(h:VT t y)(hh:Holds w t)(c:t.isOwn=false)(hb:∀b∈bl t,b<w.heap.size):Reads w [t] [y]:=
 ⟨.one h,fun u a=>by simp at a;subst a;exact hh,fun u a=>by simp at a;subst a;exact⟨c,hb⟩⟩
theorem Reads.val {w:World}{x:Value}(h:x.oneCell'=true):Reads w [.v x] [x]:= .one ⟨rfl,h⟩ (.v x) rfl (fun b hb=>by simp[bl]at hb)
section
variable  {H : Type}{enc : TypeId × Value → H}{P : Program}{w : World}
mutual
theorem Ty.open:∀(ty:Ty)(n:Nat)(t:TypeId)(cs:List Value)(x:DataW H×List MemPlace),Ty.ok P ty t=true→DataW.trod enc P w 0 (fun _=>true) true n t cs=some x →
  ∃ts,Reads w ts cs∧Shape ty ts∧cs.length=ty.size
 | .bool,0,t,cs,x,d,h=>by simp[DataW.trod]at h
 | .bool,n+1,t,cs,x,d,h=>by
  unfold Ty.ok at d;split at d<;>try cases d
  rename_i p;unfold DataW.trod at h;rw[p]at h;split at h<;>simp_all;rename_i b;exact⟨[.v (.bool b)],.val rfl,⟨b,rfl⟩,rfl⟩
 | .int k,0,t,cs,x,d,h=>by simp[DataW.trod]at h
 | .int k,n+1,t,cs,x,d,h=>by
  unfold Ty.ok at d;split at d<;>try cases d
  rename_i k' p;simp at d;subst d;unfold DataW.trod at h;rw[p]at h;split at h<;>simp_all;rename_i k0 _ m _;exact⟨[.v (.int k0 m)],.val rfl,⟨m,rfl,h.1.2⟩,rfl⟩
 | .str,0,t,cs,x,d,h=>by simp[DataW.trod]at h
 | .str,n+1,t,cs,x,d,h=>by
  unfold Ty.ok at d;split at d<;>try cases d
  rename_i p;unfold DataW.trod at h;rw[p]at h;split at h<;>simp_all;rename_i s;exact⟨[.v (.string s)],.val rfl,⟨s,rfl,h.1⟩,rfl⟩
 | .slice e,n,t,cs,x,d,h=>by
  unfold Ty.ok at d;split at d<;>try cases d
  rename_i u p;simp only[Cf,DS,bne_iff_ne,ne_eq]at d;obtain⟨⟨d,hc⟩,hz⟩:=d;rcases open_slice p h with⟨rfl,_⟩|⟨a,len,cap,m,n',D,Pl,rfl,_,N,hm,F,_,hx⟩
  ·refine⟨[.s .far ⟨0,0,0,true,none⟩ e.size []],.one (by rfl) (.e _ _ _) rfl (fun b hb=>by simp[bv]at hb),⟨_,[],rfl,by simp,fun r G=>by simp at G⟩,rfl⟩
  ·simp only[CI]at F;subst F;have O:∀i,i<len→∃row,(∃A,w.cells? 0 (a.add (i*e.size)) e.size=some A∧Reads w row A)∧Shape e row∧row.length=e.size:=by intro i hi;obtain⟨A,B,I⟩:=hx i (by omega);obtain⟨row,h3,h4,h5⟩:=Ty.open e n' u A _ d I;exact⟨row,⟨A,by rw[←hc];exact B,h3⟩,h4,by rw[h3.cells.1,h5]⟩
   obtain⟨R,C⟩:=choose_lt O;by_cases h0:len=0
   ·subst h0;exact⟨[.s .far ⟨0,0,m,true,some a⟩ e.size []],.one rfl (.e _ _ _) rfl (fun b hb=>by simp[bv]at hb),⟨_,_,rfl,by simp,fun r G=>by simp at G⟩,rfl⟩
   have l:∀(i:Nat)(row:List DT),((List.range len).map R)[i]?=some row→i<len∧row=R i:=by
    intro i row hi;rcases BY i len with g|g
    ·rw[B6,C0 g]at hi;cases hi;exact⟨g,rfl⟩
    ·rw[BV (by simpa using g)]at hi;cases hi
   obtain⟨⟨F1,v0,r0⟩,s0,l0⟩:=C 0 (by omega);obtain⟨_,Q,y⟩:=World.cells?_some v0;have o:=y 0 (by omega);have S:(a.add (0*e.size)).add 0=a:=by simp[Addr.add]
   rw[S,BW (by omega)]at o;unfold World.cell? at o;split at o
   case h_2=>cases o
   rename_i c e' f hb;split at o
   ·cases o
   rename_i hsp;have F0:a.spot=none:=by simpa using hsp
   have J:∀k,a.add k=⟨a.block,a.off+k,none⟩:=by
    intro k;unfold Addr.add;split
    ·rename_i U;subst U;cases a;simp_all
    ·rfl
   refine⟨[.s .far ⟨a.block,a.off,m,false,none⟩ e.size ((List.range len).map R)],.one ?_ ?_ rfl ?_,⟨_,_,rfl,by simp;omega,?_⟩,rfl⟩
   ·have:a=⟨a.block,a.off,none⟩:=by cases a;simp_all
    simp only[VT,Dec.addr,Ci,List.length_range,Ch,CD];rw[←this]
   ·refine .s _ _ _ _ rfl rfl c e' f hb (by simp;omega) (fun i row hi=>?_) (fun i row j u hi hj=>?_) (fun i row j u hi hj=>?_)
    ·obtain⟨g,rfl⟩:=l i row hi;exact(C i g).2.2
    ·obtain⟨g,rfl⟩:=l i row hi;obtain⟨⟨A,V,K⟩,s1,l1⟩:=C i g;obtain⟨_,W,z⟩:=World.cells?_some V;have X:j<e.size:=by
      rcases BY j (R i).length with q|q
      ·omega
      ·rw[BV q]at hj;cases hj
     have B:=z j X;rw[BW (by omega),J]at B;have I:=K.cells.2 j u _ hj (BW (by omega));refine⟨_,?_,I⟩;have e1:Addr.add ⟨a.block,a.off+i*e.size,none⟩ j=⟨a.block,a.off+i*e.size+j,none⟩:=by
      unfold Addr.add;split
      ·rename_i U;subst U;rfl
      ·rfl
     rw[e1,km hb]at B;exact B
    ·obtain⟨g,rfl⟩:=l i row hi;obtain⟨A,V,K⟩:=(C i g).1;exact K.holds u (BR hj)
   ·intro b v;rw[bv]at v;simp only[Ch,CD,Cm,B4,B5]at v;rcases v with rfl|⟨row,L,u,p,v⟩
    ·exact ci hb
    ·obtain⟨i,hi⟩:=BX L;obtain⟨g,rfl⟩:=l i row hi;obtain⟨A,V,K⟩:=(C i g).1;exact(K.far u p).2 b v
   ·intro r G;obtain⟨i,hi⟩:=BX G;obtain⟨g,rfl⟩:=l i r hi;exact(C i g).2.1
 | .struct fs,n,t,cs,x,d,h=>by
  unfold Ty.ok at d;split at d<;>try cases d
  rename_i a p;simp only[Cf,DS]at d;obtain⟨d,hc⟩:=d;obtain⟨xs,n',_,rfl,N,M,hf⟩:=DataW.trod_struct p h;obtain⟨ts,B,I⟩:=Fs.open fs a.toList 0 n' cs d (by rw[N,hc];omega) (fun f Y=>by
   obtain⟨i,hi⟩:=BX Y;have:=hf i f (by simpa using hi);have Z:i<xs.length:=by
    rw[M];rcases BY i a.size with g|g
    ·exact g
    ·rw[BV (by simpa using g)]at hi;cases hi
   rw[BW Z]at this;exact⟨_,this⟩)
  exact⟨ts,by simpa using B,I,by rw[N,hc];rfl⟩
theorem Fs.open:∀(fs:Fs)(a:List Field)(off n:Nat)(cs:List Value),Fs.ok P fs a off=true→cs.length=off+fs.size →
  (∀f∈a,∃y,DataW.trod enc P w 0 (fun _=>true) true n f.type ((cs.drop f.offset).take (P.cellsOf f.type))=some y)→∃ts,Reads w ts (cs.drop off)∧ShapeF fs ts
 | .nil,[],off,n,cs,b,c,h=>⟨[],by rw[List.drop_eq_nil_of_le (by simp[Fs.size]at c;omega)];exact .nil w,rfl⟩
 | .nil,_::_,off,n,cs,b,c,h=>by simp[Fs.ok]at b
 | .cons t r,[],off,n,cs,b,c,h=>by simp[Fs.ok]at b
 | .cons t r,f::a,off,n,cs,b,c,h=>by
  simp only[Fs.ok,Cf,DS]at b;obtain⟨⟨⟨d,hc⟩,i⟩,j⟩:=b;simp only[Fs.size]at c;obtain⟨y,e⟩:=h f (by simp);rw[d,hc]at e;obtain⟨xs,k,l,q⟩:=Ty.open t n f.type _ y i e;obtain⟨ys,m,o⟩:=Fs.open r a (off+t.size) n cs j (by omega) (fun g p=>h g (by simp[p]));refine⟨xs++ys,?_,xs,ys,rfl,l,o⟩;have:cs.drop off=(cs.drop off).take t.size++cs.drop (off+t.size):=by rw[←DY,List.take_append_drop]
  rw[this];exact k.append m
end
end
end
def atR (h off n:Nat):Nat→Nat→Bool:=fun a c=>a==h&&decide (off≤c)&&decide (c<off+n)
def qR (h off n:Nat):Nat→Nat→Bool→Bool:=fun a c _=>atR h off n a c
theorem Got.dead {cx:Cx}{D:DSt}{w:World}{P:List (DT×Value)}{ts:List DT}{ys:List Value}(G:Got cx D w P ts ys)(p:Nat→Nat→Bool)(q:Nat→Nat→Bool→Bool):
  Got cx (St.dead p q D) w P (ts.map (T.dead p)) ys:=by
 refine⟨k7 G.v,fun t a=>?_,fun t a f=>?_,fun t a=>?_,fun b=>?_⟩
 ·obtain⟨u,d,rfl⟩:=B7.1 a;exact vz (G.holds u d)
 ·obtain⟨u,d,rfl⟩:=B7.1 a;rcases T.dead_cases p u with e|⟨e,_⟩
  ·rw[e]at f ⊢;exact G.own u d f
  ·rw[e]at f;cases f
 ·obtain⟨u,d,rfl⟩:=B7.1 a;rcases T.dead_cases p u with e|⟨e,_⟩
  ·rw[e];exact l9 (by simp[St.dead]) (fun h c t=>dt) (G.kind u d)
  ·rw[e];trivial
 ·have:(ts.map (T.dead p)).flatMap ownR=ts.flatMap ownR:=by rw[De];simp only[nC]
  rw[this];exact G.cnt b
theorem Inv.box_got {cx:Cx}{D:DSt}{P:List (DT×Value)}{tm:Array Value}{w:World}(I:Inv cx D P tm w){h:Nat}{b:Nat×Nat}{ts:List DT}(hb:D[h]?=some (.box b ts))
  {us:List DT} {ys:List Value} (G:Got cx D w P us ys) {v:DT} (hv:v∈us):b.1∉bl v:=by
 intro c;have a:=(I.box_may hb).1;have f:=G.kind v hv;cases v with
 |v x=>simp[bl]at c
 |any=>simp[bl]at c
 |s k d z r =>
  cases k with
  |far=>exact Cx.far_not (f _ c) a
  |lent l m n =>
   rcases f with⟨_,_,e⟩|⟨t',g,i,e,j⟩
   ·exact Cx.keep_not (e _ c) a
   ·exact I.box_tree hb g i (e _ c)
  |own =>have o:=I.once b.1;have p:=G.cnt b.1;have q:=a8 (b:=b.1) (BR hb) (by simp[ownBl]);have t:0<(us.flatMap ownR).count b.1:=B8.2 (B5.2 ⟨_,hv,by simp only[ownR,T.isOwn,CI];exact c⟩);omega
theorem fi {α:Type}{l:List α}{o:Nat}{new:List α}(h:o+new.length≤l.length){i:Nat}(hi:¬(o≤i∧i<o+new.length)):(am l o new)[i]?=l[i]?:=by
 rw[bS h];split
 ·rfl
 ·split
  ·omega
  ·rfl
theorem Inv.storeBox {cx:Cx}{D:DSt}{P:List (DT×Value)}{tm:Array Value}{w:World}(I:Inv cx D P tm w){h:Nat}{b:Nat×Nat}{ts:List DT}(hb:D[h]?=some (.box b ts))
  {us:List DT} {ys:List Value} (G:Got cx D w P us ys) {off:Nat} (hl:off+us.length≤ts.length) (F2:0<us.length):
  (∃c e lo hi,w.heap[b.1]?=some (.cells c e (lo,hi))∧b.2+off+ys.length≤c.size∧∀x,b.2+off≤x→x<b.2+off+ys.length→¬(lo≤x∧x<hi)) ∧
  Inv cx ((St.dead (atR h off us.length) (qR h off us.length) D).set h (.box b (am (ts.map (T.dead (atR h off us.length))) off (us.map (T.dead (atR h off us.length))))))
   [] tm (w.setCells b.1 (b.2+off) ys):=by
 have F3:=G.v.1;obtain⟨⟨c,e,⟨lo,hi⟩,hh,hv⟩,i⟩:=(I.mem _ (BR hb)).2.2;have F6:b.2+ts.length≤c.size:=by
  obtain⟨y,hy,_⟩:=hv (ts.length-1) _ (BW (by omega));rcases BY (b.2+(ts.length-1)) c.size with g|g
  ·omega
  ·rw[CM g]at hy;cases hy
 have Z:∀x,b.2+off≤x→x<b.2+off+ys.length→¬(lo≤x∧x<hi):=fun x m J=>i c e lo hi hh x (by omega) (by omega)
 refine⟨⟨c,e,lo,hi,hh,by omega,Z⟩,?_⟩;obtain⟨f1,f2,f3,f4,f5,f6⟩:=eO b.1 e (lo,hi) ys (b.2+off) w c hh (by omega);have F:=I.dead (atR h off us.length) (qR h off us.length);have o:=G.dead (atR h off us.length) (qR h off us.length);have hb2:=sG (p:=atR h off us.length) (q:=qR h off us.length) hb;have hq:∀{n f:Nat},atR h off us.length n f=true→∀s∈St.dead (atR h off us.length) (qR h off us.length) D,¬jC n f s∧((∀b,qR h off us.length n f b=true)→∀st,¬jd n f st s)∧((qR h off us.length n f true=true)→∀st,jd n f st s→st=[]):=
  fun K=>gQ K
 generalize F7:St.dead (atR h off us.length) (qR h off us.length) D=D2 at F o hb2 hq ⊢;generalize Q:ts.map (T.dead (atR h off us.length))=A at hb2 ⊢;generalize R:us.map (T.dead (atR h off us.length))=l at o ⊢;have F4:A.length=ts.length:=by rw[←Q];simp
 have F5:l.length=us.length:=by rw[←R];simp
 have B:off+l.length≤A.length:=by omega
 have L:=F.mem _ (BR hb2);have a:∀t:DT,b.1∉bl t→∀x∈bl t,x<w.heap.size→(w.setCells b.1 (b.2+off) ys).heap[x]?=w.heap[x]?:=fun t ht x hx _=>f2 x (fun e=>ht (e ▸ hx))
 refine F.boxSet (ts:=A) ⟨hb2,fh B,?_,?_,?_,?_,?_,?_,?_,?_,?_,?_,?_,?_,?_⟩
 ·
  refine⟨_,e,(lo,hi),f1,fun j t M=>?_⟩;obtain⟨c2,e2,F8,S,U⟩:=L.2.2.1;rw[hh]at S;cases S;rw[bS B]at M;have F0:b.2+off+ys.length≤c.toList.length:=by simp;omega
  simp only[DA];rw[bS F0];split at M
  ·rename_i m;rw[BZ (by omega)];simpa using U j t M
  ·split at M
   ·rename_i m J;rw[Cd (by omega),BZ (by omega)];have C:j-off<ys.length:=by omega
    refine⟨ys[j-off],?_,?_⟩
    ·rw[show b.2+j-(b.2+off)=j-off by omega];exact BW C
    ·exact o.v.2 _ t _ M (BW C)
   ·rename_i m J;rw[Cd (by omega),Cd (by omega)];simpa using U j t M
 ·intro f N F9 Fa hc x m J;rw[f1]at hc;cases hc;exact i c e lo hi hh x m (by omega)
 ·intro t ht;rcases cG ht with ht|ht
  ·exact(L.1 t ht).frame (a t (F.box_root hb2 hb2 ht))
  ·exact(o.holds t ht).frame (a t (F.box_got hb2 o ht))
 ·intro t ht ho;rcases cG ht with ht|ht
  ·exact(L.2.1 t ht ho).frame (a t (F.box_root hb2 hb2 ht))
  ·exact(o.own t ht ho).frame (a t (F.box_got hb2 o ht))
 ·intro t ht;have hk:aB cx D2 t:=by
   rcases cG ht with ht|ht
   ·exact F.kind _ (BR hb2) t ht
   ·exact o.kind t ht
  have F1:∀c O d z r,off≤c→c<off+us.length→t ≠ .s (.lent h c O) d z r:=by
   intro c O d z r m J e;have V:∀u:DT,u.dead (atR h off us.length) ≠ .s (.lent h c O) d z r:=by
    intro u H;rcases T.dead_cases (atR h off us.length) u with N|⟨N,_⟩
    ·rw[N]at H;subst H;have:(T.s (.lent h c O) d z r:DT).dead (atR h off us.length)= .any:=by simp[T.dead,atR,m,J]
     rw[this]at N;cases N
    ·rw[N]at H;cases H
   subst e;rcases cG ht with ht|ht
   ·rw[←Q]at ht;obtain⟨u,_,H⟩:=B7.1 ht;exact V u H
   ·rw[←R]at ht;obtain⟨u,_,H⟩:=B7.1 ht;exact V u H
  cases t with
  |v x=>trivial
  |any=>trivial
  |s k d z r =>
   cases k with
   |own=>trivial
   |far=>exact hk
   |lent n f O =>
    rcases hk with⟨W,g2⟩|⟨t',W,g2,g3⟩
    ·exact .inl ⟨by simpa using W,g2⟩
    refine .inr ⟨t',?_,g2,g3⟩;by_cases e:n=h
    ·subst e;have X:¬(off≤f∧f<off+l.length):=fun⟨m,J⟩=>F1 f O d z r m (by omega) rfl
     have C:n<D2.length:=by
      rcases BY n D2.length with g|g
      ·exact g
      ·rw[BV g]at hb2;cases hb2
     simp only[ah,hb2,BU,ap]at W;simp only[ah,B1 C,BU,ap];rw[fi B X];exact W
    ·rw[gC e];exact W
 ·intro x;have m:=iS ownR A l off x;have J:=o.cnt x;rw[a6];omega
 ·intro f t hc ho;by_cases Y:off≤f∧f<off+l.length
  ·right;have K:atR h off us.length h f=true:=by simp[atR,Y.1];omega
   refine⟨fun s hs=>?_,fun s hs st=>?_⟩
   ·exact(hq K s hs).1
   ·exact(hq K s hs).2.1 (fun b=>K) st
  ·left;rw[fi B Y];exact hc
 ·omega
 ·exact fun x _ hx=>f2 x hx
 ·exact f4
 ·exact f5
 ·exact f6
 ·intro p K;cases K
section
variable  {δ : Type}
def T.flat:T δ→Bool| .s _ _ _ _=>false|_=>true
def setRow (i off:Nat)(us:List (T δ)):T δ→Option (T δ)| .s k d z rows=>(rows[i]?).bind fun row=>if off+us.length≤row.length then some (.s k d z (rows.set i (am row off us)))else none|_=>none
end
theorem qc {f:DT→Option DT}{n n':DT}(hf:f n=some n')(K:∀a d z m,fV n a d z m→fV n' a d z m):∀(st:List (Nat×Nat)){t t':DT},
  getN t st=some n→cM f t st=some t'→∀a d z m,fV t a d z m→fV t' a d z m
 |[],t,t',l,q,a,d,z,m,h=>by cases l;simp only[cM,hf]at q;cases q;exact K a d z m h
 |(i,c)::st,t,t',l,q,a,d,z,m,h=>by
  cases t with
  |v x=>simp[getN]at l
  |any=>simp[getN]at l
  |s O P z0 rows =>
   simp only[getN,BT]at l;obtain⟨u,⟨row,hi,A⟩,l⟩:=l;simp only[cM,hi,A,BU,BS]at q;obtain⟨u',q,rfl⟩:=q;have I:=qc hf K st l q;have o:i<rows.length:=by
    rcases BY i rows.length with g|g
    ·exact g
    ·rw[BV g]at hi;cases hi
   have y:c<row.length:=by
    rcases BY c row.length with g|g
    ·exact g
    ·rw[BV g]at A;cases A
   obtain⟨C,b,r,B⟩:=h;cases a with
   |nil =>cases r;exact⟨_,_,rfl,by simpa using B⟩
   |cons p a =>
    obtain⟨D,F⟩:=p;simp only[getN,BT]at r;obtain⟨v,⟨G,j,k⟩,r⟩:=r;by_cases e:D=i∧F=c
    ·obtain⟨rfl,rfl⟩:=e;rw[hi]at j;cases j;rw[A]at k;cases k;obtain⟨J,w,L,M⟩:=I a d z m ⟨C,b,r,B⟩;refine⟨J,w,?_,M⟩;simp only[getN];rw[B1 o];simp only[BU];rw[B1 y];exact L
    ·refine⟨C,b,?_,B⟩;simp only[getN];by_cases H:D=i
     ·subst H;rw[hi]at j;cases j;have N:¬c=F:=fun h=>e ⟨rfl,h.symm⟩
      rw[B1 o];simp only[BU];rw[B3 N,k];exact r
     ·rw[B3 (fun h=>H h.symm),j];simp only[BU];rw[k];exact r
theorem tK {k:Kd}{w:Dec}{z0:Nat}{rows:List (List DT)}{i off:Nat}{row us:List DT}(hi:rows[i]?=some row)(C:off+us.length≤row.length)
  (e:∀c,off≤c→c<off+us.length→∀t,row[c]?=some t→t.flat=true) (a:List (Nat×Nat)) (d:Dec) (z m:Nat) (h:fV (.s k w z0 rows) a d z m):
  fV (.s k w z0 (rows.set i (am row off us))) a d z m:=by
 have o:i<rows.length:=by
  rcases BY i rows.length with g|g
  ·exact g
  ·rw[BV g]at hi;cases hi
 obtain⟨D,f,b,y⟩:=h;cases a with
 |nil =>cases b;exact⟨_,_,rfl,by simpa using y⟩
 |cons p a =>
  obtain⟨F,u⟩:=p;simp only[getN,BT]at b;obtain⟨v,⟨A,j,l⟩,b⟩:=b;refine⟨D,f,?_,y⟩;simp only[getN];by_cases B:F=i
  ·subst B;rw[hi]at j;cases j;rw[B1 o];simp only[BU];by_cases n:off≤u∧u<off+us.length
   ·have:=e u n.1 n.2 v l;cases v with
    |s k d z r=>cases this
    |v x=>cases a with
     |nil=>cases b
     |cons p q=>simp[getN]at b
    |any=>cases a with
     |nil=>cases b
     |cons p q=>simp[getN]at b
   ·rw[fi C n,l];exact b
  ·rw[B3 (fun h=>B h.symm),j];simp only[BU];rw[l];exact b
theorem Inv.got_apart {cx:Cx}{D:DSt}{P:List (DT×Value)}{tm:Array Value}{w:World}(I:Inv cx D P tm w){h c:Nat}{t:DT}(hc:ah D h c=some t)(e:t.isOwn=true)
  {us:List DT} {ys:List Value} (G:Got cx D w P us ys) {v:DT} (hv:v∈us) (hf:v.fine=true) {b:Nat} (hb:b∈bl t) (a:b∈bl v):False:=by
 cases v with
 |v x=>simp[bl]at a
 |any=>simp[bl]at a
 |s k d z r =>
  cases k with
  |far=>cases hf
  |lent j l m=>cases hf
  |own =>obtain⟨s,n,f,o,g,i⟩:=aO hc;have p:=I.once b;have q:=G.cnt b;have u:=a8 (b:=b) f (i e b hb);have y:0<(us.flatMap ownR).count b:=B8.2 (B5.2 ⟨_,hv,by simp only[ownR,T.isOwn,CI];exact a⟩);omega
theorem oy {t:DT}(h:t.fine=true):t.isOwn=true∨bl t=[]:=by
 cases t with
 |v x=>right;simp[bl]
 |any=>right;simp[bl]
 |s k d z r=>cases k<;>first|(left;rfl)|cases h
theorem jE {w:World}{t:DT}(hf:t.fine=true)(h:t.isOwn=true→OwnT w t):OwnT w t:=by
 cases t with
 |v x=>exact .v x
 |any=>exact .any
 |s k d z r=>cases k<;>first|exact h rfl|cases hf
theorem iI {i a z j:Nat}(h:a<i)(b:j<z):a*z+j<i*z:=by have:(a+1)*z≤i*z:=CV _ h;rw[Da]at this;omega
theorem dP:∀(st:List (Nat×Nat)){t n:DT},getN t st=some n→∀b,(bl n).count b≤(bl t).count b
 |[],t,n,h,b=>by cases h;exact Cz _
 |(i,c)::st,t,n,h,b=>by
  cases t with
  |v x=>simp[getN]at h
  |any=>simp[getN]at h
  |s k d z rows =>simp only[getN,BT]at h;obtain⟨u,⟨row,hi,a⟩,e⟩:=h;have f:=dP st e b;have g:=sb (k:=k) (d:=d) (z:=z) hi a b;omega
theorem NodeOk.setRow {cx:Cx}{D:DSt}{P:List (DT×Value)}{tm:Array Value}{w:World}(I:Inv cx D P tm w){h c:Nat}{t:DT}(hc:ah D h c=some t)(S:t.isOwn=true)
  {st:List (Nat×Nat)} {k:Kd} {d:Dec} {z:Nat} {rows:List (List DT)} (hn:getN t st=some (.s k d z rows)) {i off:Nat} {row us:List DT} {ys:List Value} (hi:rows[i]?=some row)
  (G:Got cx D w P us ys) (H:∀u∈us,u.fine=true) (hl:off+us.length≤row.length):
  (∃U e lo W,w.heap[d.b]?=some (.cells U e (lo,W))∧d.o+i*z+off+ys.length≤U.size∧∀x,d.o+i*z+off≤x→x<d.o+i*z+off+ys.length→¬(lo≤x∧x<W)) ∧
  (d.nil=false∧d.b<w.heap.size∧d.b∈bl t) ∧
  NodeOk w (w.setCells d.b (d.o+i*z+off) ys) (.s k d z rows) (.s k d z (rows.set i (am row off us))):=by
 have Fa:=G.v.1;obtain⟨s,hs,F3,hr,F4,Fb⟩:=aO hc;have V:=I.mem s F3;have hH:=Holds.getN st (V.1 t hr) hn;have hO:=OwnT.getN st (V.2.1 t F4 S) hn;have B:i<rows.length:=by
  rcases BY i rows.length with g|g
  ·exact g
  ·rw[BV g]at hi;cases hi
 cases hH with
 |e=>simp at B
 |s _ _ _ _ r hsp U e f hb hcap hz hv hh =>
  cases hO with
  |nil=>simp at B
  |s _ _ _ F5 Fc c1 e1 lo L X F6 hroom Y F7 =>
   rw[hb]at X;cases X;have F8:=hz i row hi;have F9:(i+1)*z≤d.cap*z:=CV _ (by omega);rw[Da]at F9;have M:d.o+i*z+off+ys.length≤U.size:=by omega
   have O:d.b∈bl (.s .own d z rows:DT):=en r;have Z:d.b∈bl t:=lD st hn d.b O;refine⟨⟨U,e,lo,L,hb,M,fun x p C=>Y x (by omega) (by omega)⟩,⟨r,ci hb,Z⟩,?_⟩;obtain⟨f1,f2,f3,f4,f5,f6⟩:=eO d.b e (lo,L) ys (d.o+i*z+off) w U hb M;have F0:=I.bl_once hc S d.b;have F:∀(m:Nat)(a:List DT)(j:Nat)(u:DT),rows[m]?=some a→a[j]?=some u→d.b∉bl u:=by
    intro m a j u p C V;have q1:=sb (k := .own) (d:=d) (z:=z) p C d.b;rw[r]at q1;simp only[Ch,CD]at q1;have q2:(bl (.s .own d z rows:DT)).count d.b≤1:=by refine CH ?_ F0;exact dP st hn d.b
    have q3:0<(bl u).count d.b:=B8.2 V;simp at q1;omega
   have n:∀u:DT,d.b∉bl u→∀x∈bl u,x<w.heap.size→(w.setCells d.b (d.o+i*z+off) ys).heap[x]?=w.heap[x]?:=fun u Q x hx _=>f2 x (fun e=>Q (e ▸ hx))
   have R:∀u∈us,d.b∉bl u:=fun u Q V=>I.got_apart hc S G Q (H u Q) Z V
   have A:∀(m:Nat)(a:List DT)(j:Nat)(u:DT),(rows.set i (am row off us))[m]?=some a→a[j]?=some u →
     (∃l,rows[m]?=some l∧l[j]?=some u∧¬(m=i∧off≤j∧j<off+us.length))∨(m=i∧off≤j∧j<off+us.length∧us[j-off]?=some u):=by
    intro m a j u p C;by_cases e:m=i
    ·subst e;rw[B1 B]at p;cases p;by_cases J:off≤j∧j<off+us.length
     ·right;rw[bS hl,Cd (by omega),BZ (by omega)]at C;exact⟨rfl,J.1,J.2,C⟩
     ·left;rw[fi hl J]at C;exact⟨row,hi,C,fun g=>J g.2⟩
    ·left;rw[B3 (fun g=>e g.symm)]at p;exact⟨a,p,C,fun g=>e g.1⟩
   refine⟨?_,?_,?_,?_⟩
   ·refine .s _ _ _ _ r hsp _ e (lo,L) f1 (by simpa using hcap) (fun m a p=>?_) (fun m a j u p C=>?_) (fun m a j u p C=>?_)
    ·by_cases e:m=i
     ·subst e;rw[B1 B]at p;cases p;rw[fh hl];exact F8
     ·rw[B3 (fun g=>e g.symm)]at p;exact hz m a p
    ·have F1:d.o+i*z+off+ys.length≤U.toList.length:=by simpa using M
     simp only[DA];rcases A m a j u p C with⟨l,N,K,g3⟩|⟨rfl,N,K,g3⟩
     ·obtain⟨y,y1,y2⟩:=hv m l j u N K;refine⟨y,?_,y2⟩;have hj:j<z:=by
       have:=hz m l N;rcases BY j l.length with q|q
       ·omega
       ·rw[BV q]at K;cases K
      rw[fi F1 ?_]
      ·simpa using y1
      ·intro J;rcases Nat.lt_trichotomy m i with q|q|q
       ·have:=iI q hj;omega
       ·subst q;exact g3 ⟨rfl,by omega,by omega⟩
       ·have:=iI (j:=off+us.length-1) (z:=z) q (by omega);omega
     ·have F2:j-off<ys.length:=by omega
      rw[bS F1,Cd (by omega),BZ (by omega)];refine⟨ys[j-off],?_,G.v.2 _ u _ g3 (BW F2)⟩;rw[show d.o+m*z+j-(d.o+m*z+off)=j-off by omega];exact BW F2
    ·rcases A m a j u p C with⟨l,N,K,_⟩|⟨_,_,_,g3⟩
     ·exact(hh m l j u N K).frame (n u (F m l j u N K))
     ·exact(G.holds u (BR g3)).frame (n u (R u (BR g3)))
   ·refine .s _ _ _ r hsp _ e lo L f1 (by simpa using hcap) ?_ Y (fun m a j u p C=>?_)
    ·simp only[D9];rw[fh (by simpa using M)];simpa using hroom
    ·rcases A m a j u p C with⟨l,N,K,_⟩|⟨_,_,_,g3⟩
     ·exact(F7 m l j u N K).frame (n u (F m l j u N K))
     ·have Q:=BR g3;exact(jE (H u Q) (G.own u Q)).frame (n u (R u Q))
   ·intro y hy;simpa[VT]using hy
   ·intro x _ hx;exact f2 x fun e=>hx (e ▸ O)
def qSt (a:Bool)(h c:Nat):Nat→Nat→Bool→Bool:=if a then qNo else gK h c
theorem ib {D:DSt}{h c:Nat}{t:DT}(hc:ah D h c=some t)(d:t.isOwn=true)(b:Nat):(bl t).count b≤az D b:=by
 unfold ah at hc;simp only[BT]at hc;obtain⟨cs,⟨s,hs,a⟩,e⟩:=hc;have f:=aE ownR (T.any:DT) b cs c t e;have i:(ownR (T.any:DT)).count b=0:=rfl;have g:ownR t=bl t:=by simp[ownR,d]
 have j:=gH a b;have k:=aE ownBl (Sl.any:DSl) b D h s hs;have l:(ownBl (Sl.any:DSl)).count b=0:=rfl;unfold az;rw[g]at f;omega
theorem Inv.updNode {cx:Cx}{D:DSt}{P P':List (DT×Value)}{tm:Array Value}{w w':World}(I:Inv cx D P tm w){h c:Nat}{t:DT}(hc:ah D h c=some t)(j:t.isOwn=true)
  {st:List (Nat×Nat)} {f:DT→Option DT} {n n':DT} (y:getN t st=some n) (hf:f n=some n') (N:NodeOk w w' n n') (F0:n.isOwn=true→n'.isOwn=true)
  {p:Nat→Nat→Bool} {q:Nat→Nat→Bool→Bool} (hp:p h c=true)
  (hq:(∀l d z m,fV n l d z m→fV n' l d z m)∨(q h c true=true∧∀d z m,fV n [] d z m→fV n' [] d z m)∨(∀b,q h c b=true))
  (B:∀b,(bl n').count b+aq P' b≤if b<w.heap.size then(bl n).count b+aq P b else 1) (L:∀b,w.heap.size≤b→0<(bl n').count b+aq P' b→b<w'.heap.size)
  (F:w.heap.size≤w'.heap.size) (F1:w'.os=w.os) (G:w'.tape=w.tape) (M:w'.output=w.output)
  (H:∀p∈P',VT p.1 p.2∧Holds w' p.1∧(p.1.isOwn=true→OwnT w' p.1)∧(p.1.isOwn=false→∀x∈bl p.1,cx.far x)):
  ∃D',bD f (St.dead p q D) h c st=some D'∧Inv cx D' P' tm w':=by
 obtain⟨s,hs,F2,hr,O,Q⟩:=aO hc;have hm:=I.mem s F2;have A:∃t',cM f t st=some t':=by
  clear hr O Q B hm hc j;induction st generalizing t with
  |nil=>cases y;exact⟨n',hf⟩
  |cons a st ih =>
   obtain⟨i,c⟩:=a;cases t with
   |v x=>simp[getN]at y
   |any=>simp[getN]at y
   |s k d z rows =>simp only[getN,BT]at y;obtain⟨u,⟨row,hi,hj⟩,hg⟩:=y;obtain⟨u',F3⟩:=ih hg;exact⟨.s k d z (rows.set i (row.set c u')),by simp[cM,hi,hj,F3]⟩
 obtain⟨t',A⟩:=A;obtain⟨Z,R,C,_⟩:=qV N hf st (hm.1 t hr) (hm.2.1 t O j) (fun b=>I.bl_once hc j b) y A;have J:t'.isOwn=true:=by
  cases st with
  |nil =>cases y;simp only[cM,hf]at A;cases A;exact F0 j
  |cons a st=>exact(C (by simp)).1
 have K:ah (St.dead p q D) h c=some t:=dt hc j;obtain⟨D',S⟩:=po (t':=t') K;refine⟨D',?_,?_⟩
 ·unfold bD;rw[K];simp only[BU,A,S]
 have I2:=I.dead p q;have o:∀b,(bl n).count b≤(bl t).count b:=dP st y;have U:ownR t'=bl t':=by simp[ownR,J]
 have V:ownR t=bl t:=by simp[ownR,j]
 refine I2.upd S ⟨K,j,Z.holds,fun _=>Z.own,.inl J,Z.val,?_,?_,?_,?_,F,?_,F1,G,M,H⟩
 ·intro b;have h1:=B b;have h2:=R b;have h3:=o b;have h4:=I.once b;have h5:=ib hc j b;rw[U,V];by_cases r:b<w.heap.size
  ·rw[BZ r]at h1 ⊢;omega
  ·rw[Cd r]at h1 ⊢;have h6:az D b+aq P b=0:=by
    rcases CE (az D b+aq P b)with g|g
    ·exact g
    ·exact absurd (I.bnd b g).2 r
   omega
 ·intro b hb W;have h2:=R b;have h5:=ib hc j b;have h6:az D b+aq P b=0:=by
   rcases CE (az D b+aq P b)with g|g
   ·exact g
   ·have:=(I.bnd b g).2;omega
  rw[U]at W;exact L b hb (by have:=o b;omega)
 ·intro s hs;exact(gQ (p:=p) (q:=q) hp s hs).1
 ·intro s hs l hsp;refine⟨J,?_⟩;have X:=(gQ (p:=p) (q:=q) (h:=h) (c:=c) hp s hs).2;rcases hq with hq|⟨F4,F5⟩|hq
  ·exact qc hf hq st y A l
  ·have e:=X.2 F4 l hsp;subst e;intro d z m Y;cases st with
   |nil =>cases y;simp only[cM,hf]at A;cases A;exact F5 d z m Y
   |cons a st=>exact(C (by simp)).2 d z m Y
  ·exact absurd hsp (X.1 hq l)
 ·intro b r hb;exact Z.same b r hb
theorem Inv.storeNode {cx:Cx}{D:DSt}{P:List (DT×Value)}{tm:Array Value}{w:World}(I:Inv cx D P tm w){h c:Nat}{t:DT}(hc:ah D h c=some t)(a:t.isOwn=true)
  {st:List (Nat×Nat)} {k:Kd} {d:Dec} {z:Nat} {rows:List (List DT)} (r:getN t st=some (.s k d z rows)) {i off:Nat} {row us:List DT} {ys:List Value} (hi:rows[i]?=some row)
  (G:Got cx D w P us ys) (j:∀u∈us,u.fine=true) (A:off+us.length≤row.length) (B:Bool)
  (C:B=true→∀c,off≤c→c<off+us.length→∀t,row[c]?=some t→t.flat=true):
  (∃y e lo l,w.heap[d.b]?=some (.cells y e (lo,l))∧d.o+i*z+off+ys.length≤y.size∧∀x,d.o+i*z+off≤x→x<d.o+i*z+off+ys.length→¬(lo≤x∧x<l)) ∧
  ∃D',bD (setRow i off us) (St.dead (br h c) (qSt B h c) D) h c st=some D'∧Inv cx D' [] tm (w.setCells d.b (d.o+i*z+off) ys):=by
 obtain⟨n,⟨M,O,U⟩,N⟩:=NodeOk.setRow I hc a r hi G j A;refine⟨n,?_⟩;obtain⟨y,e,lo,l,hh,F,V⟩:=n;obtain⟨f1,f2,f3,f4,f5,f6⟩:=eO d.b e (lo,l) ys (d.o+i*z+off) w y hh F;have Q:i<rows.length:=by
  rcases BY i rows.length with g|g
  ·exact g
  ·rw[BV g]at hi;cases hi
 have W:(T.s k d z rows:DT).isOwn=true:=by obtain⟨s,hs,H,hr,J,R⟩:=aO hc;have:=OwnT.getN st ((I.mem s H).2.1 t J a) r;cases this<;>rfl
 have q:∀b,(bl (.s k d z (rows.set i (am row off us)):DT)).count b≤(bl (.s k d z rows:DT)).count b+aq P b:=by
  intro b;have S:=G.cnt b;have h2:=iS bl row us off b;have h3:(us.flatMap bl).count b≤(us.flatMap ownR).count b:=by
   have:us.flatMap bl=us.flatMap ownR:=by
    rw[DL,DL,Cl fun u X=>?_];rcases oy (j u X)with g|g
    ·simp[ownR,g]
    ·simp[ownR,g]
   rw[this];exact Cz _
  have h4:=aE (fun x:List DT=>x.flatMap bl) (am row off us) b rows i row hi;rw[bv,bv,Ce,Ce];omega
 refine I.updNode hc a r (f:=setRow i off us) ?_ N (fun _=>by cases k<;>first|rfl|cases W) (by simp[br]) ?_ ?_ ?_ (by omega) f4 f5 f6 (fun p Y=>by cases Y)
 ·simp only[setRow,hi,BU];rw[BZ A]
 ·cases B with
  |true =>left;exact tK hi A (C rfl)
  |false =>right;left;refine⟨by simp[qSt,gK],?_⟩;rintro d z m ⟨k1,K,Z,g2⟩;cases Z;exact⟨_,_,rfl,by simpa using g2⟩
 ·intro b;have S:=q b;rw[a6];split
  ·omega
  ·rename_i L;have h5:=ib hc a b;have h6:az D b+aq P b=0:=by
    rcases CE (az D b+aq P b)with g|g
    ·exact g
    ·exact absurd (I.bnd b g).2 L
   have h7:=dP st r b;omega
 ·intro b hb v;have S:=q b;rw[a6]at v;have h5:=ib hc a b;have h6:az D b+aq P b=0:=by
   rcases CE (az D b+aq P b)with g|g
   ·exact g
   ·have:=(I.bnd b g).2;omega
  have h7:=dP st r b;omega
section
variable  {δ β : Type}
def du (D:St δ β)(p:Sl δ β)(us:List (T δ)):Option (St δ β):=
 match p with
 | .pb h off =>
  match D[h]? with
  |some (.box b ts)=>
   if off+us.length≤ts.length then
    some ((St.dead (atR h off us.length) (qR h off us.length) D).set h (.box b (am (ts.map (T.dead (atR h off us.length))) off (us.map (T.dead (atR h off us.length))))))
   else none
  |_=>none
 | .pe h c st i off =>
  if us.all T.fine then
   match ah D h c with
   |some t =>
    if t.isOwn then
     match getN t st with
     |some (.s _ _ _ rows)=>
      match rows[i]? with
      |some row =>
       if off+us.length≤row.length then
        bD (setRow i off us) (St.dead (br h c) (qSt (((row.drop off).take us.length).all T.flat) h c) D) h c st
       else none
      |none=>none
     |_=>none
    else none
   |none=>none
  else none
 |_=>none
def iJ (M:Mk δ β)(tab:Tab)(D:St δ β)(t:Nat)(p x:Operand)(tk:Bool):Option (St δ β):=
 match tab.ti t,cellsOf M D x tk with
 |some ti,some (_,us,D1)=>if us.length=ti.size∧0<us.length then(opd M.nil D1 p).bind fun p=>du D1 p us else none
 |_,_=>none
end
theorem Inv.cellsOf {cx:Cx}{D:DSt}{a:Act}{w:World}(I:Inv cx D [] a.tmps w){x:Operand}{tk g:Bool}{ts:List DT}{D':DSt}(e:cellsOf mkD D x tk=some (g,ts,D')):
  ∃ys P,Inv cx D' P a.tmps w∧Got cx D' w P ts ys∧aP g (a.eval x) ys:=by
 unfold Am.cellsOf at e;split at e
 ·exact I.cellsTake e
 ·rw[BS]at e;obtain⟨⟨d,ts'⟩,h,e⟩:=e;cases e;obtain⟨ys,b,c⟩:=I.cellsCopy h;exact⟨ys,[],I,b,c⟩
theorem ry {P:Program}{tab:Tab}(ok:ax P tab){cx:Cx}{D1 D':DSt}{a:Act}{w:World}{I:List (DT×Value)}(r:Inv cx D1 I a.tmps w){t:Nat}{ti:TI}{p:Operand}{o:Value}{g:Bool}{us:List DT}{ys:List Value}
  (s:tab.ti t=some ti) (G:Got cx D1 w I us ys) (hv:aP g o ys) (u:us.length=ti.size∧0<us.length) {J:DSl} (Q:Am.opd mkD.nil D1 p=some J) (e:du D1 J us=some D'):
  ∃w',(Instr.storeAt t (a.eval p) o).run P w = .ok () w'∧Inv cx D' [] a.tmps w':=by
 have K:=r.opd (a:=a) Q;have L:=G.v.1;have q:g=false→o.oneCell'=true:=by
  intro q;subst q;have:ys=[o]:=by simpa[aP]using hv
  exact G.v.cells1 _ (by rw[this];simp)
 have j:=Tab.ok ok s;unfold du at e;split at e
 ·rename_i h off;split at e
  case h_2=>cases e
  rename_i b ts hb;split at e
  case isFalse=>cases e
  rename_i x;cases e;obtain⟨⟨c,e,lo,hi,y,A,B⟩,C⟩:=r.storeBox hb G x u.2;obtain⟨W,ts',l,D⟩:=K.val;rw[hb]at l;cases l;refine⟨_,?_,C⟩;rw[D];exact oN j y hv q (by omega) A B G.v.cells1
 ·rename_i h c st i off;split at e
  case isFalse=>cases e
  rename_i f;split at e
  case h_2=>cases e
  rename_i X m;split at e
  case isFalse=>cases e
  rename_i n;split at e
  case h_2=>cases e
  rename_i k d z rows M;split at e
  case h_2=>cases e
  rename_i row hi;split at e
  case isFalse=>cases e
  rename_i x;obtain⟨⟨Y,Z,lo,R,y,A,B⟩,D2,F,C⟩:=r.storeNode m n M hi G (by simpa using f) x (((row.drop off).take us.length).all T.flat) (fun hs c S U t V=>by rw[B2]at hs;refine hs t (BR (i:=c-off) ?_);rw[CR,BZ (by omega),CG,show off+(c-off)=c by omega];exact V);rw[F]at e;cases e;obtain⟨d',z',n',⟨t1,N,q2,k2,H,O,q4⟩,_,D⟩:=K.val;rw[m]at N;cases N;rw[M]at O;cases O;refine⟨_,?_,C⟩;rw[D];exact oN j y hv q (by omega) A B G.v.cells1
 ·cases e
theorem u6 {P:Program}{tab:Tab}(ok:ax P tab){cx:Cx}{D D':DSt}{a:Act}{w:World}(I:Inv cx D [] a.tmps w){t:Nat}{p x:Operand}{tk:Bool}
  (e:iJ mkD tab D t p x tk=some D'):∃w',(Instr.storeAt t (a.eval p) (a.eval x)).run P w = .ok () w'∧Inv cx D' [] a.tmps w':=by
 unfold iJ at e;split at e
 case h_2=>cases e
 rename_i ti g us D1 b hc;split at e
 case isFalse=>cases e
 rename_i c;rw[BT]at e;obtain⟨h,d,e⟩:=e;obtain⟨ys,i,f,G,hv⟩:=I.cellsOf hc;exact ry ok f b G hv c d e
section
structure gz (δ β:Type) where
 box:β
 row:Nat→δ
 app:δ→Nat→Nat→Nat→δ
 str:Nat→Nat→δ
def frD (w:World):gz Dec (Nat×Nat):=⟨(w.heap.size,0),fun cap=>⟨w.heap.size,0,cap,false,none⟩,fun d n m e=>if n+m≤d.cap then d else⟨w.heap.size,0,grownCap w (n+m) d.cap e,false,none⟩,fun n e=>⟨w.heap.size,0,grownCap w n 0 e,false,none⟩⟩
def frU:gz Unit Unit:=⟨(),fun _=>(),fun _ _ _ _=>(),fun _ _=>()⟩
section
variable  {δ β : Type}
def iy (M:Mk δ β)(F:gz δ β)(tab:Tab)(D:St δ β)(dst:Option Nat)(t:Nat):Option (St δ β):=
 match tab.ti t,dst with
 |some ti,some d=>if d<D.length then some (av D (some d) (.box F.box (ti.zero.map (T.inj M.nil))))else none
 |_,_=>none
def nT (M:Mk δ β)(F:gz δ β)(D:St δ β)(dst:Option Nat)(x:Operand)(tk:Bool):Option (St δ β):=
 match cellsOf M D x tk,dst with
 |some (_,us,D1),some d=>if d<D1.length then some (av D1 (some d) (.box F.box us))else none
 |_,_=>none
def iD (D:St δ β)(dst:Option Nat)(x:Operand)(i:Nat):Option (St δ β):=
 match x,dst with
 | .tmp t,some d =>
  match D[t]? with
  |some (.tup rs)=>
   match rs[i]? with
   |some (g,ts)=>
    if d<D.length∧ts.all T.noLent then
     (cU g ts).map fun s=>av (D.set t (.tup (rs.set i (g,ts.map T.hole)))) (some d) s
    else none
   |none=>none
  |_=>none
 |_,_=>none
def fz (D:St δ β)(x:Operand):Option Nat :=
 match x with
 | .tmp t=>(match D[t]? with|some (.box _ _)=>some t|some (.pb h 0)=>some h|_=>none)
 |_=>none
def ij (D:St δ β):List Operand→Option (List Nat)|[]=>some []|x::xs=>(fz D x).bind fun h=>(ij D xs).map fun hs=>h::hs
def mh (D:St δ β)(f:FuncId)(xs:List Operand):Option (Sl δ β):=(ij D xs).map fun hs=>.clo (.fn f) hs
end
variable  {P : Program}{tab : Tab}
theorem es (w:World)(e:TypeId)(cs:Array Value):(newRow e cs).run P w = .ok ⟨w.heap.size,0,none⟩ (w.alloc (.cells cs e)):=by simp[newRow]
theorem oh (ok:ax P tab){cx:Cx}{D D':DSt}{a:Act}{w:World}(I:Inv cx D [] a.tmps w){dst:Option Nat}{t:Nat}(e:iy mkD (frD w) tab D dst t=some D'):
  ∃y w',(Instr.alloc t true (.tuple #[])).run P w = .ok y w'∧Inv cx D' [] (a.put dst y).tmps w':=by
 unfold iy at e;split at e
 case h_2=>cases e
 rename_i ti d b;split at e
 case isFalse=>cases e
 rename_i hd;cases e;obtain⟨z,c,f,g⟩:=l6 (Tab.ok ok b) w;have G:=em (P:=P) (t:=t) (w:=w) (cx:=cx) (D:=D) (ys:=z.cells.toList) g;rw[←f]at G;have h:=I.newBox (a:=a) (e:=t) G hd;refine⟨_,_,?_,h⟩;simp[Instr.alloc,c,newVar,es]
theorem wL {cx:Cx}{D D':DSt}{a:Act}{w:World}(I:Inv cx D [] a.tmps w){dst:Option Nat}{t:Nat}{x:Operand}{tk:Bool}(e:nT mkD (frD w) D dst x tk=some D'):
  ∃y w',(Instr.box t (a.eval x)).run P w = .ok y w'∧Inv cx D' [] (a.put dst y).tmps w':=by
 unfold nT at e;split at e
 case h_2=>cases e
 rename_i g us D1 d hc;split at e
 case isFalse=>cases e
 rename_i hd;cases e;obtain⟨ys,i,f,G,hv⟩:=I.cellsOf hc;have b:(a.eval x).cells=ys.toArray:=by
  cases g with
  |true=>simp only[aP,CI]at hv;rw[hv];rfl
  |false =>
   have:ys=[a.eval x]:=by simpa[aP]using hv
   have c:=G.v.cells1 _ (by rw[this];simp:a.eval x∈ys);rw[this];cases h:a.eval x<;>first|rfl|(rw[h]at c;simp[Value.oneCell']at c)
 refine⟨_,_,?_,f.newBox (e:=t) G hd⟩;simp[Instr.box,newVar,es,b]
section
variable  {δ β : Type}
def aZ (M:Mk δ β)(D:St δ β)(pl:List (Nat×Nat)):List (Nat×Operand)→List (T δ)→Option (List (T δ))
 |[],ts=>some ts
 |(i,x)::r,ts =>
  match pl[i]?,cellsCopy M D x with
  |some (off,size),some (_,us)=>if us.length=size∧off+us.length≤ts.length then aZ M D pl r (am ts off us)else none
  |_,_=>none
def gB (M:Mk δ β)(tab:Tab)(D:St δ β)(t:Nat)(a:List (Nat×Operand)):Option (Sl δ β):=
 match tab.ti t,tab.pl t with
 |some ti,some pl=>(aZ M D pl a (ti.zero.map (T.inj M.nil))).map fun ts=>.agg ts
 |_,_=>none
end
theorem Got.splice {cx:Cx}{D:DSt}{w:World}{ts us:List DT}{xs ys:List Value}(G:Got cx D w [] ts xs)(H:Got cx D w [] us ys){off:Nat}(c:off+us.length≤ts.length):
  Got cx D w [] (am ts off us) (am xs off ys):=by
 refine⟨G.v.splice H.v c,fun t a=>?_,fun t a=>?_,fun t a=>?_,fun b=>?_⟩
 ·rcases cG a with h|h
  ·exact G.holds t h
  ·exact H.holds t h
 ·rcases cG a with h|h
  ·exact G.own t h
  ·exact H.own t h
 ·rcases cG a with h|h
  ·exact G.kind t h
  ·exact H.kind t h
 ·have d:=iS ownR ts us off b;have e:=G.cnt b;have f:=H.cnt b;rw[a6]at *;omega
theorem kw {cx:Cx}{D:DSt}{a:Act}{w:World}(I:Inv cx D [] a.tmps w)(pl:List (Nat×Nat)):∀(b:List (Nat×Operand)){ts ts':List DT}{xs:List Value},Got cx D w [] ts xs →
  aZ mkD D pl b ts=some ts'→∃ys,Instr.fill (pl.toArray[·]?) xs.toArray (b.map fun p=>(p.1,a.eval p.2))=some ys.toArray∧Got cx D w [] ts' ys
 |[],ts,ts',xs,G,e=>by cases e;exact⟨xs,rfl,G⟩
 |(i,x)::r,ts,ts',xs,G,e=>by
  simp only[aZ]at e;split at e
  case h_2=>cases e
  rename_i off size g us h hc;split at e
  case isFalse=>cases e
  rename_i j;obtain⟨ys,H,hv⟩:=I.cellsCopy hc;have c:(a.eval x).cells=ys.toArray:=by
   cases g with
   |true=>simp only[aP,CI]at hv;rw[hv];rfl
   |false =>
    have:ys=[a.eval x]:=by simpa[aP]using hv
    have d:=H.v.cells1 _ (by rw[this];simp:a.eval x∈ys);rw[this];cases k:a.eval x<;>first|rfl|(rw[k]at d;simp[Value.oneCell']at d)
  obtain⟨l,d,m⟩:=kw I pl r (G.splice H j.2) e;refine⟨l,?_,m⟩;have n:=G.v.1;have o:=H.v.1;have f:pl.toArray[i]?=some (off,size):=by simpa using h
  simp only[Cc,Instr.fill,f,c];rw[Cd (by simp;omega)];rw[cD ys.toArray off xs.toArray (by simp;omega)];simpa using d
theorem oj {P:Program}{tab:Tab}(ok:ax P tab){cx:Cx}{D:DSt}{a:Act}{w:World}(I:Inv cx D [] a.tmps w){t:Nat}{c:Array (Nat×Operand)}{s:DSl}(e:gB mkD tab D t c.toList=some s):
  ∃y,(Instr.build t (c.map fun(i,x)=>(i,a.eval x))).run P w = .ok y w∧Tells cx D w s y:=by
 unfold gB at e;split at e
 case h_2=>cases e
 rename_i ti pl g h;rw[BS]at e;obtain⟨ts,j,rfl⟩:=e;obtain⟨i,d,z,k,q,l,r,u,m,A,n⟩:=cO (Tab.ok ok g);have G:=em (P:=P) (t:=t) (w:=w) (cx:=cx) (D:=D) (ys:=z.cells.toList) n;rw[←m]at G;obtain⟨ys,o,H⟩:=kw I pl c.toList G j;refine⟨.agg ys.toArray,run_build w t _ _ ?_,⟨⟨ys.toArray,rfl,by simpa using H.v⟩,⟨H.holds,H.own,trivial⟩,H.kind,?_⟩⟩
 ·have f:=Tab.okPl ok h;unfold iv at f;split at f
  ·rename_i fs p;unfold Program.built;rw[k,p];simp only[l,f];simpa using o
  ·cases f
 ·have:∀b,(ts.flatMap ownR).count b=0:=fun b=>by have:=H.cnt b;rw[a6]at this;omega
  show ts.flatMap ownR=[];rw[CW];intro b hb;have:=this b;have:=B8.2 hb;omega
theorem Inv.swap {cx:Cx}{D:DSt}{P Q:List (DT×Value)}{tm:Array Value}{w:World}(I:Inv cx D P tm w){t:Nat}{d s:DSl}(c:D[t]?=some d)(i:∀s'∈D,¬bd t s')(j:¬bd t s)
  (hv:VS D s (tm.getD t undef)) (l:MemS w s) (m:bZ cx D s)
  (n:∀p∈Q,VT p.1 p.2∧Holds w p.1∧(p.1.isOwn=true→OwnT w p.1)∧(p.1.isOwn=false→∀x∈bl p.1,cx.far x))
  (o:∀b,(ownBl s).count b+aq Q b≤(ownBl d).count b+aq P b):Inv cx (D.set t s) Q tm w:=by
 have f:t<D.length:=by
  rcases BY t D.length with g|g
  ·exact g
  ·rw[BV g]at c;cases c
 have a:∀b,az (D.set t s) b+aq Q b≤az D b+aq P b:=by intro b;have k:=aE ownBl s b D t d c;have q:=o b;unfold az;omega
 refine⟨by have:=I.size;simpa using this,fun u s' hs=>?_,fun s' hs=>?_,fun s' hs=>?_,n,fun b=>?_,fun b hb=>?_,I.frame⟩
 ·by_cases e:u=t
  ·subst e;rw[B1 f]at hs;cases hs;exact mZ j hv
  ·rw[B3 (fun h=>e h.symm)]at hs;exact mZ (i s' (BR hs)) (I.val u s' hs)
 ·rcases CK hs with h|rfl
  ·exact I.mem s' h
  ·exact l
 ·rcases CK hs with h|rfl
  ·exact jD (i s' h) (I.kind s' h)
  ·exact jD j m
 ·have k:=a b;have q:=I.once b;omega
 ·have k:=a b;exact I.bnd b (by omega)
theorem Inv.tup_refs {cx:Cx}{D:DSt}{P:List (DT×Value)}{tm:Array Value}{w:World}(I:Inv cx D P tm w){t:Nat}{rs:List (Bool×List DT)}(q:D[t]?=some (.tup rs)){s:DSl}{y:Value}(hv:VS D s y)(v:bZ cx D s):¬bd t s:=by
 have hc:∀c,ah D t c=none:=fun c=>by simp[ah,q,ap]
 have j:∀(us:List DT),(∀u∈us,aB cx D u)→¬ ∃u∈us,∃c o d z r,u = .s (.lent t c o) d z r:=by
  rintro us h ⟨u,x,c,o,d,z,r,rfl⟩;rcases h _ x with⟨l,_⟩|⟨t',l,_⟩
  ·exact lN q l
  rw[hc]at l;cases l
 intro m;cases s with
 |any=>exact m
 |one u=>obtain⟨c,o,d,z,r,rfl⟩:=m;exact j [_] (fun u x=>v u (by simpa[af]using x)) ⟨_,Cj _,c,o,d,z,r,rfl⟩
 |agg ts=>exact j ts v m
 |box b ts=>exact j ts v m
 |al h c st lo len =>simp only[bd]at m;subst m;obtain⟨d,z,n,a,⟨t',l,_⟩,_⟩:=hv;rw[hc]at l;cases l
 |pe h c st i off =>simp only[bd]at m;subst m;obtain⟨d,z,n,⟨t',l,_⟩,_⟩:=hv;rw[hc]at l;cases l
 |pb h off =>simp only[bd]at m;subst m;obtain⟨b,ts,l,_⟩:=hv;rw[q]at l;cases l
 |im k b ts off =>
  cases k with
  |own=>exact m
  |far=>exact m
  |lent h c o =>
   simp only[bd]at m;subst m;rcases v with⟨l,_⟩|⟨t',l,_⟩
   ·exact lN q l
   rw[hc]at l;cases l
 |fni f caps=>exact m
 |clo f hs =>
  obtain⟨B,l,C,_⟩:=hv;obtain⟨i,hi⟩:=BX m;obtain⟨b,hb⟩:∃b,B[i]?=some b:=by
   have:i<hs.length:=by
    rcases BY i hs.length with g|g
    ·exact g
    ·rw[BV g]at hi;cases hi
   exact⟨_,BW (by omega)⟩
  obtain⟨ts,A⟩:=C i t b hi hb;rw[q]at A;cases A
 |tup rs =>obtain⟨p,F,u,x,c,o,d,z,r,e⟩:=m;exact j (af (.tup rs)) v ⟨u,B5.2 ⟨p,F,x⟩,c,o,d,z,r,e⟩
theorem vt {t:DT}{y:Value}(h:VT t y):VT t.hole y:=by
 cases t with
 |s k d z r=>cases k<;>first|exact h|exact h.one
 |_=>exact h
theorem yv (t:DT):t.hole.isOwn=false:=by
 cases t with
 |s k d z r=>cases k<;>rfl
 |_=>rfl
theorem we (t:DT):t.hole=t∨t.hole = .any:=by
 cases t with
 |s k d z r=>cases k<;>first|(left;rfl)|(right;rfl)
 |_=>left;rfl
theorem iL {cx:Cx}{D D':DSt}{t:DT}(a:t.noLent=true)(h:aB cx D t):aB cx D' t:=by
 cases t with
 |s k d z r=>cases k<;>first|exact h|cases a
 |_=>trivial
theorem rL {cx:Cx}{D D':DSt}{a:Act}{w:World}(I:Inv cx D [] a.tmps w){dst:Option Nat}{x:Operand}{i:Nat}(e:iD D dst x i=some D'):
  ∃y,(Instr.extract (a.eval x) i).run P w = .ok y w∧Inv cx D' [] (a.put dst y).tmps w:=by
 unfold iD at e;split at e
 case h_2=>cases e
 rename_i t d;split at e
 case h_2=>cases e
 rename_i rs hD;split at e
 case h_2=>cases e
 rename_i g ts hi;split at e
 case isFalse=>cases e
 rename_i hc;rw[BS]at e;obtain⟨s,hs,rfl⟩:=e;obtain⟨hd,J⟩:=hc;rw[B2]at J;have F:=BR hD;obtain⟨A,V,N,l⟩:=I.val t _ hD;have L:=I.mem _ F;have M:∀u∈af (.tup rs:DSl),aB cx D u:=I.kind _ F;have X:i<rs.length:=by
  rcases BY i rs.length with q|q
  ·exact q
  ·rw[BV q]at hi;cases hi
 have Y:A.toList[i]?=some A.toList[i]:=BW (by omega);have B:=l i _ _ hi Y;obtain⟨ys,hv,K⟩:∃ys,aP g A.toList[i] ys∧VCells ts ys:=by
  unfold VPart at B;cases g with
  |true =>simp only[CI]at B;obtain⟨cs,n,o⟩:=B;exact⟨cs.toList,by simpa[aP]using n,o⟩
  |false =>simp only[Ch,CD]at B;obtain⟨t',n,o⟩:=B;subst n;exact⟨[A.toList[i]],by simp[aP],.one o⟩
 have m:∀u∈ts,u∈af (.tup rs:DSl):=fun u c=>B5.2 ⟨_,BR hi,c⟩
 have H:∀(j:Nat)(r:Bool×List DT),(rs.set i (g,ts.map T.hole))[j]?=some r→(j=i∧r=(g,ts.map T.hole))∨(j≠i∧rs[j]?=some r):=by
  intro j r hj;by_cases e:j=i
  ·subst e;rw[B1 X]at hj;cases hj;exact .inl ⟨rfl,rfl⟩
  ·rw[B3 (fun h=>e h.symm)]at hj;exact .inr ⟨e,hj⟩
 have f:∀u∈(rs.set i (g,ts.map T.hole)).flatMap (·.2),u∈af (.tup rs:DSl)∨u = .any:=by
  intro u c;obtain⟨r,hr,c⟩:=B5.1 c;obtain⟨j,hj⟩:=BX hr;rcases H j r hj with⟨_,rfl⟩|⟨_,hj⟩
  ·obtain⟨v,C,rfl⟩:=B7.1 c;rcases we v with q|q
   ·rw[q];exact .inl (m v C)
   ·exact .inr q
  ·exact .inl (B5.2 ⟨r,BR hj,c⟩)
 have hV:VS D (.tup (rs.set i (g,ts.map T.hole))) (a.tmps.getD t undef):=by
  refine⟨A,V,by simpa using N,fun j r v hj C=>?_⟩;rcases H j r hj with⟨rfl,rfl⟩|⟨_,hj⟩
  ·have:=l j _ v hi C;unfold VPart at this ⊢;cases g with
   |true =>simp only[CI]at this ⊢;obtain⟨cs,n,o,h3⟩:=this;refine⟨cs,n,by simpa using o,fun k u y M V=>?_⟩;rw[B6,BS]at M;obtain⟨u',Z,rfl⟩:=M;exact vt (h3 k u' y Z V)
   |false =>simp only[Ch,CD]at this ⊢;obtain⟨t',n,o⟩:=this;subst n;exact⟨t'.hole,rfl,vt o⟩
  ·exact l j r v hj C
 have hK:bZ cx D (.tup (rs.set i (g,ts.map T.hole)):DSl):=fun u c=>by
  rcases f u c with q|q
  ·exact M u q
  ·subst q;trivial
 have hM:MemS w (.tup (rs.set i (g,ts.map T.hole)):DSl):=by
  refine⟨fun u c=>?_,fun u c W=>?_,trivial⟩
  ·rcases f u c with q|q
   ·exact L.1 u q
   ·subst q;exact .any
  ·rcases f u c with q|q
   ·exact L.2.1 u q W
   ·subst q;cases W
 have O:∀p∈ts.zip ys,p.1∈ts∧VT p.1 p.2:=by intro p B;obtain⟨j,hj⟩:=BX B;rw[Dr]at hj;exact⟨BR hj.1,K.2 j _ _ hj.1 hj.2⟩
 have R:=ik ts ys K.1;have I1:=I.swap (Q:=ts.zip ys) hD (fun s' S=>by obtain⟨u,c⟩:=BX S;exact I.tup_refs hD (I.val u s' c) (I.kind s' S)) (I.tup_refs hD hV hK) hV
  hM hK
  (fun p B=>by
   obtain⟨n,o⟩:=O p B;refine⟨o,L.1 _ (m _ n),L.2.1 _ (m _ n),fun W x hx=>?_⟩;have F0:=M _ (m _ n);have F1:=J _ n;generalize p.1=u at *;cases u with
   |v x=>simp[bl]at hx
   |any=>simp[bl]at hx
   |s k d z r=>cases k<;>first|exact F0 x hx|(cases F1;done)|(cases W;done))
  (fun b=>by
   have n:(ts.flatMap ownR).count b+(ownBl (.tup (rs.set i (g,ts.map T.hole)):DSl)).count b=((ts.map T.hole).flatMap ownR).count b+(ownBl (.tup rs:DSl)).count b :=
    aE (fun r:Bool×List DT=>r.2.flatMap ownR) (g,ts.map T.hole) b rs i _ hi
   have o:((ts.map T.hole).flatMap ownR)=[]:=by rw[Ca];intro u c;obtain⟨v,_,rfl⟩:=B7.1 c;exact bW (yv v)
   rw[o,DZ]at n;rw[R b,a6];omega)
 have G:Got cx (D.set t (.tup (rs.set i (g,ts.map T.hole)))) w (ts.zip ys) ts ys :=
  ⟨K,fun u c=>L.1 u (m u c),fun u c=>L.2.1 u (m u c),fun u c=>iL (J u c) (M u (m u c)),fun b=>by rw[R b];exact Cz _⟩
 have U:=I1.putGot (a:=a) G hv hs (dst:=some d) (fun t' h=>by cases h;simpa using hd) rfl;refine⟨A.toList[i],?_,U⟩;have F2:a.eval (.tmp t)= .tuple A:=V;rw[F2];have:A[i]?=some A.toList[i]:=by simp
 simp[Instr.extract,this]
section
variable  {δ β : Type}
def eS (M:Mk δ β)(D:St δ β)(z:Nat):List (Nat×Operand)→List (List (T δ))→Option (List (List (T δ)))
 |[],rows=>some rows
 |(i,x)::r,rows =>
  match cellsCopy M D x with
  |some (_,us)=>if us.length=z∧i<rows.length∧us.all T.fine=true then eS M D z r (rows.set i us)else none
  |none=>none
def b9 (M:Mk δ β)(F:gz δ β)(tab:Tab)(D:St δ β)(dst:Option Nat)(t len:Nat)(a:List (Nat×Operand)):Option (St δ β):=
 match tab.ti t,dst with
 |some ⟨_,_,_,.slice e⟩,some d =>
  match tab.ti e with
  |some b =>
   if d<D.length∧b.size≠0∧b.zero.length=b.size∧len*b.size≤2 ^ 24 then
    (eS M D b.size a (List.replicate len (b.zero.map (T.inj M.nil)))).map fun rows=>av D (some d) (.one (.s .own (F.row len) b.size rows))
   else none
  |none=>none
 |_,_=>none
def cd (M:Mk δ β)(F:gz δ β)(tab:Tab)(D:St δ β)(dst:Option Nat)(t:Nat)(l c:Operand):Option (St δ β):=
 match tab.ti t,dst,(opd M.nil D l).bind intOfSl,(opd M.nil D c).bind intOfSl with
 |some ⟨_,_,_,.slice e⟩,some d,some n,some k =>
  match tab.ti e with
  |some a =>
   if d<D.length∧a.size≠0∧a.zero.length=a.size then
    if 0≤n∧n≤k∧(a.bytes:Int)*k≤281474976710656∧k≤4611686018427387904 then
     some (av D (some d) (.one (.s .own (F.row k.toNat) a.size (List.replicate n.toNat (a.zero.map (T.inj M.nil))))))
    else none
   else none
  |none=>none
 |_,_,_,_=>none
end
structure RowsAre (z:Nat)(rows:List (List DT))(cs:List Value):Prop where
 len:cs.length=rows.length*z
 row:∀(i:Nat)(row:List DT),rows[i]?=some row→row.length=z
 val:∀(i:Nat)(row:List DT)(j:Nat)(t:DT),rows[i]?=some row→row[j]?=some t→∃y,cs[i*z+j]?=some y∧VT t y
theorem RowsAre.set {z:Nat}{rows:List (List DT)}{cs:List Value}(h:RowsAre z rows cs){i:Nat}(hi:i<rows.length){us:List DT}{ys:List Value}(hv:VCells us ys)(hz:us.length=z):
  i*z+ys.length≤cs.length∧RowsAre z (rows.set i us) (am cs (i*z) ys):=by
 have f:(i+1)*z≤rows.length*z:=CV _ hi;rw[Da,Nat.one_mul]at f;have e:=hv.1;have d:i*z+ys.length≤cs.length:=by rw[h.len];omega
 refine⟨d,⟨by rw[fh d,h.len];simp,fun b row a=>?_,fun b row j t a c=>?_⟩⟩
 ·by_cases q:b=i
  ·subst q;rw[B1 hi]at a;cases a;exact hz
  ·rw[B3 (fun g=>q g.symm)]at a;exact h.row b row a
 ·by_cases q:b=i
  ·subst q;rw[B1 hi]at a;cases a;have l:j<us.length:=by
    rcases BY j us.length with g|g
    ·exact g
    ·rw[BV g]at c;cases c
   refine⟨ys[j]'(by omega),?_,hv.2 j t _ c (BW (by omega))⟩;rw[bS d,Cd (by omega),BZ (by omega),show b*z+j-b*z=j by omega];exact BW (by omega)
  ·rw[B3 (fun g=>q g.symm)]at a;obtain⟨y,m,n⟩:=h.val b row j t a c;refine⟨y,?_,n⟩;have k:j<z:=by
    have:=h.row b row a;rcases BY j row.length with g|g
    ·omega
    ·rw[BV g]at c;cases c
   rw[fi d ?_]
   ·exact m
   ·intro o;rcases Nat.lt_trichotomy b i with g|g|g
    ·have:=iI g k;omega
    ·exact q g
    ·have:=iI (j:=ys.length-1) (z:=z) g (by omega);omega
theorem RowsAre.init {e:List DT}{a:Array Value}(hv:VCells e a.toList)(hz:a.size≠0)(n:Nat):
  RowsAre a.size (List.replicate n e) ((Array.range (n*a.size)).map (fun i=>a[i % a.size]!)).toList:=by
 have l:e.length=a.size:=by have:=hv.1;simpa using this
 refine⟨by simp,fun i row hr=>?_,fun i row j t hr f=>?_⟩
 ·have:=BR hr;rw[CN this];exact l
 ·have h:i<n:=by
   rcases BY i n with g|g
   ·exact g
   ·rw[BV (by simpa using g)]at hr;cases hr
  have c:row=e:=CN (BR hr);subst c;have b:j<a.size:=by
   rcases BY j row.length with g|g
   ·omega
   ·rw[BV g]at f;cases f
  have k:i*a.size+j<n*a.size:=by have:(i+1)*a.size≤n*a.size:=CV _ h;rw[Da]at this;omega
  have d:(i*a.size+j) % a.size=j:=by rw[Nat.mul_comm,Nat.mul_add_mod];exact Nat.mod_eq_of_lt b
  refine⟨a[j],?_,hv.2 j t _ f (by simp[b])⟩;simp only[Array.toList_map,Array.toList_range,B6,C0 k,BQ,d];simp[b]
structure oS (w:World)(t:DT):Prop where
 fine:t.fine=true
 holds:Holds w t
 own:t.isOwn=true→OwnT w t
 bl:bl t=[]
theorem Got.bare {cx:Cx}{D:DSt}{w:World}{ts:List DT}{ys:List Value}(G:Got cx D w [] ts ys)(hf:∀t∈ts,t.fine=true):∀t∈ts,oS w t:=by
 intro t a;refine⟨hf t a,G.holds t a,G.own t a,?_⟩;rcases oy (hf t a)with h|h
 ·rw[CW];intro b hb;have c:=G.cnt b;rw[a6]at c;have d:0<(ts.flatMap ownR).count b:=B8.2 (B5.2 ⟨t,a,by simp only[ownR,h,CI];exact hb⟩);omega
 ·exact h
theorem eF {cx:Cx}{D:DSt}{w:World}{P:List (DT×Value)}{us:List DT}{ys:List Value}{g:Bool}{y:Value}(H:Got cx D w P us ys)(hv:aP g y ys):y.cells=ys.toArray:=by
 cases g with
 |true=>simp only[aP,CI]at hv;rw[hv];rfl
 |false =>
  have:ys=[y]:=by simpa[aP]using hv
  have a:=H.v.cells1 _ (by rw[this];simp:y∈ys);rw[this];cases y<;>first|rfl|(simp[Value.oneCell']at a)
theorem iP {cx:Cx}{D:DSt}{a:Act}{w:World}(I:Inv cx D [] a.tmps w)(z:Nat):∀(c:List (Nat×Operand)){rows b:List (List DT)}{cs:List Value},RowsAre z rows cs →
  (∀row∈rows,∀t∈row,oS w t)→eS mkD D z c rows=some b →
  ∃d,Instr.fill (fun i=>some (i*z,z)) cs.toArray (c.map fun p=>(p.1,a.eval p.2))=some d.toArray∧RowsAre z b d∧b.length=rows.length∧∀row∈b,∀t∈row,oS w t
 |[],rows,b,cs,R,B,e=>by cases e;exact⟨cs,rfl,R,rfl,B⟩
 |(i,x)::r,rows,b,cs,R,B,e=>by
  simp only[eS]at e;split at e
  case h_2=>cases e
  rename_i g us hc;split at e
  case isFalse=>cases e
  rename_i h;obtain⟨ys,H,hv⟩:=I.cellsCopy hc;have f:=eF H hv;have hf:∀t∈us,t.fine=true:=by have:=h.2.2;rwa [B2]at this
  obtain⟨j,l⟩:=R.set h.2.1 H.v h.1;obtain⟨d,m,n,o,s⟩:=iP I z r l (fun row u t k=>by
   rcases CK u with q|q
   ·exact B row q t k
   ·subst q;exact H.bare hf t k) e
  refine⟨d,?_,n,by rw[o];simp,s⟩;have y:=H.v.1;simp only[Cc,Instr.fill,f];rw[Cd (by simp;omega)];rw[cD ys.toArray (i*z) cs.toArray (by simpa using j)];simpa using m
theorem oW (ok:ax P tab){cx:Cx}{D D':DSt}{a:Act}{w:World}(I:Inv cx D [] a.tmps w){dst:Option Nat}{t len:Nat}{c:Array (Nat×Operand)}
  (e:b9 mkD (frD w) tab D dst t len c.toList=some D'):∃y w',(Instr.buildSlice t len (c.map fun(i,x)=>(i,a.eval x))).run P w = .ok y w'∧Inv cx D' [] (a.put dst y).tmps w':=by
 unfold b9 at e;split at e
 case h_2=>cases e
 rename_i sz U ze m d H;split at e
 case h_2=>cases e
 rename_i l s;split at e
 case isFalse=>cases e
 rename_i hc;rw[BS]at e;obtain⟨rows,V,rfl⟩:=e;obtain⟨hd,J,K,O⟩:=hc;have W:=cL (Tab.ok ok H) rfl;obtain⟨z,X,L,Y⟩:=l6 (Tab.ok ok s) w;have hs:=fN (Tab.ok ok s) w;have G:=em (P:=P) (t:=m) (w:=w) (cx:=cx) (D:=D) (ys:=z.cells.toList) Y;rw[←L]at G;have A:z.cells.size=l.size:=by rw[←K,L];simp[bG]
 have q:∀t∈l.zero.map (T.inj nilD),t.fine=true:=by intro t r;rw[L]at r;simp only[B7,bG,CS]at r;obtain⟨u,⟨j,hj,rfl⟩,rfl⟩:=r;unfold zT;split<;>rfl
 have Q:=RowsAre.init G.v (by omega) len;rw[A]at Q;obtain⟨f,f1,R,f3,B⟩:=iP I l.size c.toList Q (fun row M t r=>by have:=CN M;subst this;exact G.bare q t r) V;have k:rows.length=len:=by rw[f3];simp
 have C:(Instr.buildSlice t len (c.map fun(i,x)=>(i,a.eval x))).run P w = .ok (.slice (some ⟨w.heap.size,0,none⟩) len len) (w.alloc (.cells f.toArray m)):=by
  have n:Instr.fill (fun i=>some (i*l.size,l.size)) ((Array.range (len*l.size)).map fun i=>z.cells[i % l.size]!) (c.toList.map fun p=>(p.1,a.eval p.2))=some f.toArray:=by rw[Array.toArray_toList]at f1;exact f1
  simp only[Instr.buildSlice,run_underlying W,Sem.run_bind,Result.andThen_ok,hs];rw[Cd (by omega)];by_cases F:len*l.size=0
  ·have Z:len=0:=by
    rcases Nat.mul_eq_zero.1 F with h|h
    ·exact h
    ·exact absurd h J
   rw[F]at n;have e0:(Array.range 0).map (fun i=>z.cells[i % l.size]!)= #[]:=by simp
   rw[e0]at n;simp only[F,CI,Sem.run_pure,Result.andThen_ok];have e1:∀N:Array Value,(Array.range 0).map (fun i=>N[i % N.size]!)= #[]:=fun N=>by simp
   simp only[e1];simp[n,es]
  ·simp[F,X,A,n,es]
 have g:=Grew.alloc w (.cells f.toArray m);have o:(w.alloc (.cells f.toArray m)).heap[w.heap.size]?=some (.cells f.toArray m (0,0)):=by show(w.heap.push _)[w.heap.size]?=_;simp
 have S:∀(i:Nat)(row:List DT)(j:Nat)(t:DT),rows[i]?=some row→row[j]?=some t→oS w t:=fun i row j t hi hj=>B row (BR hi) t (BR hj)
 have hH:Holds (w.alloc (.cells f.toArray m)) (.s .own ((frD w).row len) l.size rows):=by refine .s _ _ _ _ rfl rfl _ m (0,0) o (by simp[frD,k]) R.row (fun i row j t hi hj=>?_) (fun i row j t hi hj=>(S i row j t hi hj).holds.frame fun b _ hb=>g.same b hb);obtain⟨y,y1,y2⟩:=R.val i row j t hi hj;exact⟨y,by simpa[frD]using y1,y2⟩
 have hO:OwnT (w.alloc (.cells f.toArray m)) (.s .own ((frD w).row len) l.size rows):=by refine .s _ _ _ rfl rfl _ m 0 0 o (by simp[frD,k]) (by simp[frD,R.len,k]) (fun x _ _ h=>by omega) (fun i row j t hi hj=>?_);have:=S i row j t hi hj;exact(jE this.fine this.own).frame fun b _ hb=>g.same b hb
 refine⟨_,_,C,I.newRows (P:=[]) g (by simp) (d:=(frD w).row len) ⟨rfl,rfl⟩ hH hO (fun b=>?_) hd (by simp[VT,Dec.addr,frD,k])⟩;have:rows.flatMap (fun x=>x.flatMap Am.bl)=[]:=by rw[Ca];intro row M;rw[Ca];intro t r;exact(B row M t r).bl
 rw[this];simp
structure wG (w w':World)(t:DT)(v:Value):Prop where
 val:VT t v
 holds:Holds w' t
 own:OwnT w' t
 once:∀b,(bl t).count b≤1
 new:∀b∈bl t,w.heap.size≤b∧b<w'.heap.size
theorem qv (ok:ax P tab){cx:Cx}{D D':DSt}{a:Act}{w:World}(I:Inv cx D [] a.tmps w){dst:Option Nat}{t len:Nat}{c:Array (Nat×Operand)}
  (e:b9 mkD (frD w) tab D dst t len c.toList=some D'):∃y w' d Q z rows,dst=some d∧D'=av D (some d) (.one (.s .own Q z rows))∧(Instr.buildSlice t len (c.map fun(i,x)=>(i,a.eval x))).run P w = .ok y w'∧Grew w w'∧wG w w' (.s .own Q z rows) y:=by
 unfold b9 at e;split at e
 case h_2=>cases e
 rename_i sz W ze m d J;split at e
 case h_2=>cases e
 rename_i l A;split at e
 case isFalse=>cases e
 rename_i hc;rw[BS]at e;obtain⟨rows,X,rfl⟩:=e;obtain⟨hd,K,L,S⟩:=hc;have Y:=cL (Tab.ok ok J) rfl;obtain⟨z,Z,M,g3⟩:=l6 (Tab.ok ok A) w;have hs:=fN (Tab.ok ok A) w;have G:=em (P:=P) (t:=m) (w:=w) (cx:=cx) (D:=D) (ys:=z.cells.toList) g3;rw[←M]at G;have C:z.cells.size=l.size:=by rw[←L,M];simp[bG]
 have r:∀t∈l.zero.map (T.inj nilD),t.fine=true:=by intro t s;rw[M]at s;simp only[B7,bG,CS]at s;obtain⟨u,⟨j,hj,rfl⟩,rfl⟩:=s;unfold zT;split<;>rfl
 have U:=RowsAre.init G.v (by omega) len;rw[C]at U;obtain⟨f,f1,R,f3,B⟩:=iP I l.size c.toList U (fun row N t s=>by have:=CN N;subst this;exact G.bare r t s) X;have k:rows.length=len:=by rw[f3];simp
 have F:(Instr.buildSlice t len (c.map fun(i,x)=>(i,a.eval x))).run P w = .ok (.slice (some ⟨w.heap.size,0,none⟩) len len) (w.alloc (.cells f.toArray m)):=by
  have n:Instr.fill (fun i=>some (i*l.size,l.size)) ((Array.range (len*l.size)).map fun i=>z.cells[i % l.size]!) (c.toList.map fun p=>(p.1,a.eval p.2))=some f.toArray:=by rw[Array.toArray_toList]at f1;exact f1
  simp only[Instr.buildSlice,run_underlying Y,Sem.run_bind,Result.andThen_ok,hs];rw[Cd (by omega)];by_cases H:len*l.size=0
  ·have F0:len=0:=by
    rcases Nat.mul_eq_zero.1 H with h|h
    ·exact h
    ·exact absurd h K
   rw[H]at n;have e0:(Array.range 0).map (fun i=>z.cells[i % l.size]!)= #[]:=by simp
   rw[e0]at n;simp only[H,CI,Sem.run_pure,Result.andThen_ok];have e1:∀O:Array Value,(Array.range 0).map (fun i=>O[i % O.size]!)= #[]:=fun O=>by simp
   simp only[e1];simp[n,es]
  ·simp[H,Z,C,n,es]
 have g:=Grew.alloc w (.cells f.toArray m);have o:(w.alloc (.cells f.toArray m)).heap[w.heap.size]?=some (.cells f.toArray m (0,0)):=by show(w.heap.push _)[w.heap.size]?=_;simp
 have V:∀(i:Nat)(row:List DT)(j:Nat)(t:DT),rows[i]?=some row→row[j]?=some t→oS w t:=fun i row j t hi hj=>B row (BR hi) t (BR hj)
 have hH:Holds (w.alloc (.cells f.toArray m)) (.s .own ((frD w).row len) l.size rows):=by refine .s _ _ _ _ rfl rfl _ m (0,0) o (by simp[frD,k]) R.row (fun i row j t hi hj=>?_) (fun i row j t hi hj=>(V i row j t hi hj).holds.frame fun b _ hb=>g.same b hb);obtain⟨y,y1,y2⟩:=R.val i row j t hi hj;exact⟨y,by simpa[frD]using y1,y2⟩
 have hO:OwnT (w.alloc (.cells f.toArray m)) (.s .own ((frD w).row len) l.size rows):=by refine .s _ _ _ rfl rfl _ m 0 0 o (by simp[frD,k]) (by simp[frD,R.len,k]) (fun x _ _ h=>by omega) (fun i row j t hi hj=>?_);have:=V i row j t hi hj;exact(jE this.fine this.own).frame fun b _ hb=>g.same b hb
 have q:rows.flatMap (fun x=>x.flatMap Am.bl)=[]:=by rw[Ca];intro row N;rw[Ca];intro t s;exact(B row N t s).bl
 refine⟨_,_,d,(frD w).row len,l.size,rows,rfl,rfl,F,g,⟨by simp[VT,Dec.addr,frD,k],hH,hO,?_,fun b hb=>?_⟩⟩
 ·intro b;rw[bv,q];simp only[frD,Ch,CD,Cp];rw[List.count_singleton];split<;>omega
 ·rw[bv,q]at hb;simp[frD]at hb;subst hb;exact⟨Cz _,by simp⟩
theorem Inv.opInt {cx:Cx}{D:DSt}{a:Act}{w:World}(I:Inv cx D [] a.tmps w){x:Operand}{n:Int}(h:(Am.opd mkD.nil D x).bind intOfSl=some n):∃k,a.eval x = .int k n:=by
 rw[BT]at h;obtain⟨s,c,b⟩:=h;unfold intOfSl at b;split at b
 ·rename_i k n';cases b;exact⟨k,(I.opd c).val.1⟩
 ·cases b
theorem qb (ok:ax P tab){cx:Cx}{D D':DSt}{a:Act}{w:World}(I:Inv cx D [] a.tmps w){dst:Option Nat}{t:Nat}{l c:Operand}
  (e:cd mkD (frD w) tab D dst t l c=some D'):∃y w',(Instr.makeSlice t (a.eval l) (a.eval c)).run P w = .ok y w'∧Inv cx D' [] (a.put dst y).tmps w':=by
 unfold cd at e;split at e
 case h_2=>cases e
 rename_i sz U ze o d n k C V F;split at e
 case h_2=>cases e
 rename_i m H;split at e
 case isFalse=>cases e
 rename_i hc;split at e
 case isFalse=>cases e
 rename_i W;cases e;obtain⟨hd,X,J⟩:=hc;obtain⟨Y,Z,n3,n4⟩:=W;have hu:=cL (Tab.ok ok C) rfl;obtain⟨i,d',z,g1,F0,K,g4,g5,L,g7,g3⟩:=cO (Tab.ok ok H);have G:=em (P:=P) (t:=o) (w:=w) (cx:=cx) (D:=D) (ys:=z.cells.toList) g3;rw[←L]at G;have A:z.cells.size=m.size:=by rw[←J,L];simp[bG]
 have s:∀t∈m.zero.map (T.inj nilD),t.fine=true:=by intro t B;rw[L]at B;simp only[B7,bG,CS]at B;obtain⟨u,⟨j,hj,rfl⟩,rfl⟩:=B;unfold zT;split<;>rfl
 obtain⟨kl,M⟩:=I.opInt V;obtain⟨kc,N⟩:=I.opInt F;have f:=run_make w t o i z hu g1 K kl kc n k Y Z (by rw[g5];exact n3) (by omega);rw[←M, ←N]at f;have R:=RowsAre.init G.v (by omega) k.toNat;have O:(madeCells z.cells (k.toNat*i.size))=((Array.range (k.toNat*z.cells.size)).map (fun i=>z.cells[i % z.cells.size]!)):=by unfold madeCells;rw[g4,A]
 rw[O]at f;rw[A]at R f;generalize p:(Array.range (k.toNat*m.size)).map (fun i=>z.cells[i % m.size]!)=cells at R f;have g:=Grew.alloc w (.cells cells o);have q:(w.alloc (.cells cells o)).heap[w.heap.size]?=some (.cells cells o (0,0)):=by show(w.heap.push _)[w.heap.size]?=_;simp
 have F1:n.toNat≤k.toNat:=by omega
 have r:∀(i:Nat)(row:List DT),(List.replicate n.toNat (m.zero.map (T.inj nilD)))[i]?=some row→(List.replicate k.toNat (m.zero.map (T.inj nilD)))[i]?=some row:=by
  intro i row h;rw[Ee]at h ⊢;split at h
  ·rw[BZ (by omega)];exact h
  ·cases h
 have Q:∀(i:Nat)(row:List DT)(j:Nat)(t:DT),(List.replicate n.toNat (m.zero.map (T.inj nilD)))[i]?=some row→row[j]?=some t→oS w t:=fun i row j t hi hj=>by have:=CN (BR hi);subst this;exact G.bare s t (BR hj)
 have S:cells.size=k.toNat*m.size:=by rw[←p];simp
 have hH:Holds (w.alloc (.cells cells o)) (.s .own ((frD w).row k.toNat) m.size (List.replicate n.toNat (m.zero.map (T.inj nilD)))):=by refine .s _ _ _ _ rfl rfl _ o (0,0) q (by simp[frD];omega) (fun i row h=>R.row i row (r i row h)) (fun i row j t hi hj=>?_) (fun i row j t hi hj=>(Q i row j t hi hj).holds.frame fun b _ hb=>g.same b hb);obtain⟨y,y1,y2⟩:=R.val i row j t (r i row hi) hj;exact⟨y,by simpa[frD]using y1,y2⟩
 have hO:OwnT (w.alloc (.cells cells o)) (.s .own ((frD w).row k.toNat) m.size (List.replicate n.toNat (m.zero.map (T.inj nilD)))):=by refine .s _ _ _ rfl rfl _ o 0 0 q (by simp[frD];omega) (by simp[frD,S]) (fun x _ _ h=>by omega) (fun i row j t hi hj=>?_);have:=Q i row j t hi hj;exact(jE this.fine this.own).frame fun b _ hb=>g.same b hb
 refine⟨_,_,f,I.newRows (P:=[]) g (by simp) (d:=(frD w).row k.toNat) ⟨rfl,rfl⟩ hH hO (fun b=>?_) hd (by simp[VT,Dec.addr,frD])⟩;have:(List.replicate n.toNat (m.zero.map (T.inj nilD))).flatMap (fun x=>x.flatMap Am.bl)=[]:=by rw[Ca];intro row hr;rw[Ca];intro t B;obtain⟨i,hi⟩:=BX hr;obtain⟨j,hj⟩:=BX B;exact(Q i row j t hi hj).bl
 rw[this];simp
end
theorem Holds.cells {w:World}{k:Kd}{d:Dec}{z:Nat}{rows:List (List DT)}(h:Holds w (.s k d z rows))(x:0<z):
  ∃cs:List Value,RowsAre z rows cs∧(∀u∈cs,u.oneCell'=true)∧(rows=[]∧cs=[]∨d.nil=false∧d.sp=none∧∀j u,cs[j]?=some u→w.cell? ⟨d.b,d.o+j,none⟩=some u):=by
 cases h with
 |e=>exact⟨[],⟨by simp,fun i r h=>by simp at h,fun i r j t h=>by simp at h⟩,fun u h=>(by cases h),.inl ⟨rfl,rfl⟩⟩
 |s _ _ _ _ q hsp c e f hb hcap hz hv hh =>
  have at_:∀n,n<rows.length*z→∃t y,c[d.o+n]?=some y∧VT t y:=by
   intro n a;have hi:n/z<rows.length:=Nat.div_lt_of_lt_mul (by rw[Nat.mul_comm];exact a);have m:n % z<z:=Nat.mod_lt _ x;have D:=hz (n/z) rows[n/z] (BW hi);obtain⟨y,l,p⟩:=hv (n/z) rows[n/z] (n % z) (rows[n/z][n % z]'(by omega)) (BW hi) (BW (by omega));have:n/z*z+n % z=n:=by rw[Nat.mul_comm];exact Nat.div_add_mod n z
   rw[C2,this]at l;exact⟨_,y,l,p⟩
  refine⟨(List.range (rows.length*z)).map fun n=>(c[d.o+n]?).getD undef,⟨by simp,hz,fun i row j t hi m=>?_⟩,fun u C=>?_,.inr ⟨q,hsp,fun j u m=>?_⟩⟩
  ·obtain⟨y,l,p⟩:=hv i row j t hi m;refine⟨y,?_,p⟩;have A:i<rows.length:=by
    rcases BY i rows.length with g|g
    ·exact g
    ·rw[BV g]at hi;cases hi
   have B:j<z:=by
    have:=hz i row hi;rcases BY j row.length with g|g
    ·omega
    ·rw[BV g]at m;cases m
   have:=iI A B;rw[B6,C0 this,BQ, ←C2,l];rfl
  ·simp only[B7,CB]at C;obtain⟨n,a,rfl⟩:=C;obtain⟨t,y,l,p⟩:=at_ n a;rw[l];exact p.one
  ·rw[B6,BS]at m;obtain⟨n,a,rfl⟩:=m;have v:j<rows.length*z:=by
    rcases BY j (rows.length*z)with g|g
    ·exact g
    ·rw[BV (by simpa using g)]at a;cases a
   rw[C0 v]at a;cases a;obtain⟨t,y,l,p⟩:=at_ j v;rw[km hb,l];rfl
theorem RowsAre.append {z:Nat}{rows a:List (List DT)}{cs b:List Value}(h:RowsAre z rows cs)(g:RowsAre z a b):RowsAre z (rows++a) (cs++b):=by
 refine⟨by simp[h.len,g.len,Da],fun i row hi=>?_,fun i row j t hi e=>?_⟩
 ·rcases BY i rows.length with q|q
  ·rw[CA q]at hi;exact h.row i row hi
  ·rw[Cy q]at hi;exact g.row _ row hi
 ·rcases BY i rows.length with q|q
  ·rw[CA q]at hi;obtain⟨y,c,d⟩:=h.val i row j t hi e;refine⟨y,?_,d⟩;rw[CA]
   ·exact c
   ·rcases BY (i*z+j) cs.length with p|p
    ·exact p
    ·rw[BV p]at c;cases c
  ·rw[Cy q]at hi;obtain⟨y,c,d⟩:=g.val _ row j t hi e;refine⟨y,?_,d⟩;have f:(i-rows.length)*z=i*z-rows.length*z:=Nat.sub_mul _ _ _;have k:rows.length*z≤i*z:=CV _ q;rw[Cy (by rw[h.len];omega),h.len];rw[show i*z+j-rows.length*z=(i-rows.length)*z+j by omega];exact c
structure r9 (B:Nat)(w w':World):Prop where
 os:w'.os=w.os
 tape:w'.tape=w.tape
 output:w'.output=w.output
 size:w.heap.size≤w'.heap.size
 same:∀b,b≠B→b<w.heap.size→w'.heap[b]?=w.heap[b]?
structure zm (B:Nat)(s:DSl):Prop where
 roots:∀v∈af s,B∉bl v
 rootsO:∀v∈Am.rootsO s,B∉bl v
 head:match s with| .box b _=>b.1≠B| .im _ b _ _=>b.1≠B| .fni _ caps=>∀p∈caps,p.1.1≠B|_=>True
theorem Lies.grewX {B:Nat}{w w':World}(g:r9 B w w'){b:Nat×Nat}(hb:b.1≠B){ts:List DT}(h:Lies w b ts):Lies w' b ts:=by obtain⟨c,e,f,a,hv⟩:=h;exact⟨c,e,f,by rw[g.same _ hb (ci a)];exact a,hv⟩
theorem MemS.grewX {B:Nat}{w w':World}(g:r9 B w w'){s:DSl}(a:zm B s)(h:MemS w s):MemS w' s:=by
 obtain⟨m,n,d⟩:=h;refine⟨fun t i=>(m t i).frame fun b hb j=>g.same b (fun e=>a.roots t i (e ▸ hb)) j,fun t i o=>(n t i o).frame fun b hb j=>g.same b (fun e=>a.rootsO t i (e ▸ hb)) j,?_⟩;cases s with
 |box b ts =>refine⟨d.1.grewX g a.head,fun c e lo hi hb=>?_⟩;rw[g.same _ a.head d.1.lt]at hb;exact d.2 c e lo hi hb
 |im k b ts off=>exact Lies.grewX g a.head d
 |fni f caps=>exact fun p l=>(d p l).grewX g (a.head p l)
 |_=>trivial
theorem Inv.pend_out {cx:Cx}{D:DSt}{P:List (DT×Value)}{tm:Array Value}{w:World}(I:Inv cx D P tm w){B:Nat}(Q:0<aq P B):cx.may B∧B<w.heap.size∧∀s∈D,zm B s:=by
 have a:=I.bnd B (by omega);refine⟨a.1,a.2,fun s hs=>?_⟩;have m:∀s'∈D,B∉ownBl s':=by intro s' u hb;have g:=a8 u hb;have y:=I.once B;omega
 have F:∀v:DT,aB cx D v→(v.isOwn=true→B∉bl v)→B∉bl v:=by
  intro v l n hb;cases v with
  |v x=>simp[bl]at hb
  |any=>simp[bl]at hb
  |s k d z r =>
   cases k with
   |own=>exact n rfl hb
   |far=>exact Cx.far_not (l B hb) a.1
   |lent h c L =>
    rcases l with⟨_,_,q⟩|⟨t',g,y,q,M⟩
    ·exact Cx.keep_not (q B hb) a.1
    obtain⟨s',N,G,O,J,H⟩:=aO g;exact m s' G (H y B (q B hb))
 have l:=I.kind s hs;have A:=m s hs;cases s with
 |any=>exact⟨fun v hv=>by simp[af]at hv,fun v hv=>by simp[Am.rootsO]at hv,trivial⟩
 |one t =>have g:B∉bl t:=F t (l t (by simp[af])) (fun n hb=>A (by simp[ownBl,ownR,n,hb]));exact⟨fun v hv=>by simp[af]at hv;subst hv;exact g,fun v hv=>by simp[Am.rootsO]at hv;subst hv;exact g,trivial⟩
 |agg ts =>
  have g:∀t∈ts,B∉bl t:=fun t j=>F t (l t j) (fun n hb=>A (by simp only[ownBl,B5];exact⟨t,j,by simp[ownR,n,hb]⟩))
  exact⟨g,g,trivial⟩
 |box b ts =>
  have g:∀t∈ts,B∉bl t:=fun t j=>F t (l t j) (fun n hb=>A (by simp only[ownBl,Cq,B5];exact .inr ⟨t,j,by simp[ownR,n,hb]⟩))
  exact⟨g,g,fun e=>A (by simp[ownBl,e])⟩
 |tup rs =>
  have g:∀t∈rs.flatMap (·.2),B∉bl t:=fun t j=>F t (l t j) (fun n hb=>A (by simp only[B5]at j;obtain⟨p,C,j⟩:=j;simp only[ownBl,B5];exact⟨p,C,t,j,by simp[ownR,n,hb]⟩))
  exact⟨g,g,trivial⟩
 |al h c st lo len=>exact⟨fun v hv=>by simp[af]at hv,fun v hv=>by simp[Am.rootsO]at hv,trivial⟩
 |pb h off=>exact⟨fun v hv=>by simp[af]at hv,fun v hv=>by simp[Am.rootsO]at hv,trivial⟩
 |pe h c st i off=>exact⟨fun v hv=>by simp[af]at hv,fun v hv=>by simp[Am.rootsO]at hv,trivial⟩
 |clo f u=>exact⟨fun v hv=>by simp[af]at hv,fun v hv=>by simp[Am.rootsO]at hv,trivial⟩
 |im k b ts off =>
  have o:iK cx D k b.1 ts:=l;cases k with
  |own=>exact o.elim
  |far=>exact⟨fun v hv hb=>Cx.far_not (o.2 v hv B hb) a.1,fun v hv=>by simp[Am.rootsO]at hv,fun e=>Cx.far_not (e ▸ o.1) a.1⟩
  |lent h c L =>
   rcases o with⟨_,q,K⟩|⟨t',g,y,q,K⟩
   ·exact⟨fun v hv hb=>Cx.keep_not (K v hv B hb) a.1,fun v hv=>by simp[Am.rootsO]at hv,fun e=>Cx.keep_not (e ▸ q) a.1⟩
   obtain⟨s',N,G,O,J,H⟩:=aO g;exact⟨fun v hv hb=>m s' G (H y B (K v hv B hb)),fun v hv=>by simp[Am.rootsO]at hv,fun e=>m s' G (H y B (e ▸ q))⟩
 |fni f caps =>refine⟨fun v hv hb=>?_,fun v hv=>by simp[Am.rootsO]at hv,fun p C e=>Cx.far_not (e ▸ (l p C).1) a.1⟩;simp only[af,B5]at hv;obtain⟨p,C,hv⟩:=hv;exact Cx.far_not ((l p C).2 v hv B hb) a.1
theorem Inv.pendWrite {cx:Cx}{D:DSt}{P:List (DT×Value)}{tm:Array Value}{w w':World}(I:Inv cx D P tm w){B:Nat}(k:0<aq P B)(g:r9 B w w'){t:DT}{y:Value}
  (hv:VT t y) (hh:Holds w' t) (l:OwnT w' t) (a:t.isOwn=true) (hc:∀b,(bl t).count b≤aq P b):Inv cx D [(t,y)] tm w':=by
 obtain⟨c,m,d⟩:=I.pend_out k;have i:∀b,aq [(t,y)] b≤aq P b:=fun b=>by simp only[aq,B9,Df,Cp,ownR,a,CI];exact hc b
 refine⟨I.size,I.val,fun s hs=>(I.mem s hs).grewX g (d s hs),I.kind,fun p j=>?_,fun b=>?_,fun b hb=>?_,?_⟩
 ·rw[B4]at j;subst j;exact⟨hv,hh,fun _=>l,fun h=>by rw[a]at h;cases h⟩
 ·have:=I.once b;have:=i b;omega
 ·have:=i b;have:=I.bnd b (by omega);exact⟨this.1,Cr this.2 g.size⟩
 ·have f:=I.frame;exact⟨g.os.trans f.os,g.tape.trans f.tape,g.output.trans f.output,CH f.size g.size,fun b hb=>by rw[g.same b (fun e=>Cx.keep_not (e ▸ hb) c) (Cr hb.1 f.size)];exact f.same b hb⟩
end Go.Proofs.Yticaelmbkfeeaaa.Am
