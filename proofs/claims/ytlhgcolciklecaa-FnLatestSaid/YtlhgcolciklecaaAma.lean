/- An abstract machine over trees, and that its steps are sound, a part. Conditions: none. -/
import Derived.Calls
import Derived.Tactics
import Derived.Laws.StructEq
import Derived.Laws.Small
import Derived.Laws.Slices
import Derived.Laws.Strings
import Derived.Laws.Pointers
import Derived.Laws.Build
import Derived.Laws.Cells
import Derived.Laws.IdiomCopy
import Derived.Deep.Slices
import Derived.Deep.OwnRows
import Derived.Laws.MakeOwn
import Derived.Laws.Tables
import Derived.Deep.AppendSrc
namespace Go.Proofs.Ytlhgcolciklecaa.Am
open Go
set_option linter.unusedVariables false
set_option linter.unusedSimpArgs false
abbrev Ee:=@Option.map_some
abbrev Ef:=@List.mem_of_getElem?
abbrev Eg:=@Option.bind_some
abbrev Eh:=@Option.bind_eq_some_iff
abbrev Ei:=@Option.map_eq_some_iff
abbrev Ej:=@if_pos
abbrev Ek:=@List.getElem?_eq_none
abbrev El:=@List.getElem?_eq_getElem
abbrev Em:=@Nat.lt_or_ge
abbrev En:=@List.getElem?_of_mem
abbrev Eo:=@List.all_eq_true
abbrev Ep:=@List.getElem?_set_self
abbrev Eq:=@List.mem_flatMap
abbrev Er:=@List.mem_singleton
abbrev Es:=@List.getElem?_set_ne
abbrev Et:=@List.getElem?_map
abbrev Eu:=@if_neg
abbrev Ew:=@List.count_pos_iff
abbrev Ex:=@List.mem_map
abbrev Ey:=@List.flatMap_eq_nil_iff
abbrev Ez:=@List.flatMap_cons
abbrev EA:=@decide_eq_false
abbrev EB:=@List.map_cons
abbrev EC:=@decide_eq_true
abbrev ED:=@List.count_append
abbrev EE:=@Bool.false_eq_true
abbrev EF:=@Bool.and_eq_true
abbrev EG:=@cond_true
abbrev EH:=@List.append_nil
abbrev EI:=@List.mem_append
abbrev EJ:=@List.length_map
abbrev EK:=@Classical.byContradiction
abbrev EL:=@List.nil_append
abbrev EM:=@List.map_congr_left
abbrev EN:=@List.mem_singleton_self
abbrev EO:=@Array.getElem?_eq_getElem
abbrev EP:=@cond_false
abbrev EQ:=@Nat.le_refl
abbrev ER:=@List.mem_cons
abbrev ES:=@List.map_map
abbrev ET:=@Array.getD_eq_getD_getElem?
abbrev EU:=@Nat.lt_of_lt_of_le
abbrev EV:=@if_true
abbrev EW:=@List.mem_range
abbrev EX:=@List.getElem?_append_right
abbrev EY:=@Option.some.injEq
abbrev EZ:=@List.getElem?_append_left
abbrev E0:=@Nat.eq_zero_or_pos
abbrev E1:=@Int.tdiv_eq_ediv_of_nonneg
abbrev E2:=@List.length_singleton
abbrev E3:=@if_false
abbrev E4:=@List.getElem?_drop
abbrev E5:=@Bool.false_ne_true
abbrev E6:=@List.map_nil
abbrev E7:=@Nat.le_trans
abbrev E8:=@Option.map_map
abbrev E9:=@Array.getElem?_eq_none
abbrev Fa:=@List.eq_of_mem_replicate
abbrev Fb:=@List.contains_iff_mem
abbrev Fc:=@List.all_map
abbrev Fd:=@List.mem_or_eq_of_mem_set
abbrev Fe:=@List.getElem?_take
abbrev Ff:=@List.mem_mapIdx
abbrev Fg:=@List.foldl_cons
abbrev Fh:=@List.length_eq_zero_iff
abbrev Fi:=@List.mem_of_mem_drop
abbrev Fj:=@Nat.mul_le_mul_right
abbrev Fk:=@List.eq_nil_iff_forall_not_mem
abbrev Fl:=@List.mem_filter
abbrev Fm:=@List.flatMap_append
abbrev Fn:=@List.getElem?_range
abbrev Fo:=@List.length_append
abbrev Fp:=@Nat.add_assoc
abbrev Fq:=@List.drop_eq_nil_of_le
abbrev Ft:=@List.ext_getElem?
abbrev Fu:=@List.count_cons
abbrev Fv:=@Array.toList_inj
abbrev Fw:=@List.any_eq_true
abbrev Fx:=@List.filter_cons
abbrev Fy:=@List.mem_filterMap
abbrev Fz:=@List.mem_of_mem_take
abbrev FA:=@List.mem_map_of_mem
abbrev FB:=@beq_eq_false_iff_ne
abbrev FC:=@Nat.add_mul
abbrev FD:=@Nat.lt_irrefl
abbrev FE:=@Int.tmod_eq_emod_of_nonneg
abbrev FF:=@List.flatMap_map
abbrev FG:=@List.getElem?_mapIdx
abbrev FH:=@List.map_append
abbrev FI:=@Nat.zero_add
abbrev FJ:=@List.idxOf_lt_length_iff
abbrev FK:=@List.map_take
abbrev FL:=@List.map_drop
abbrev FM:=@List.getElem?_cons_succ
abbrev FN:=@List.getElem?_cons_zero
abbrev FO:=@List.flatMap_nil
abbrev FP:=@congrArg
abbrev FQ:=@List.perm_ext_iff_of_nodup
abbrev FR:=@decide_eq_true_eq
abbrev FS:=@List.mem_cons_of_mem
abbrev FT:=@List.getElem?_zip_eq_some
abbrev FU:=@List.pairwise_iff_getElem
abbrev FV:=@List.getLast?_eq_none_iff
abbrev FW:=@List.drop_zero
abbrev FX:=@Option.getD_some
abbrev FY:=@List.getElem_mem
abbrev FZ:=@List.length_cons
abbrev F0:=@List.map_set
abbrev F1:=@Option.isSome_iff_exists
abbrev F2:=@beq_self_eq_true
abbrev F3:=@Bool.or_eq_true
abbrev F4:=@List.any_eq_false
abbrev F5:=@of_decide_eq_true
abbrev F6:=@List.getElem?_toArray
abbrev F7:=@List.take_length
abbrev F8:=@Array.getElem?_append_left
abbrev F9:=@List.map_id
abbrev Ga:=@List.findSome?_cons
abbrev Gb:=@List.cons.injEq
abbrev Gc:=@List.drop_eq_getElem_cons
abbrev Gd:=@List.drop_sublist
abbrev Ge:=@Nat.lt_trichotomy
abbrev Gf:=@List.map_inj_left
abbrev Gg:=@Array.all_eq_true_iff_forall_mem
abbrev Gh:=@List.flatMap_def
abbrev Gi:=@List.nodup_range
abbrev Gj:=@Array.getElem?_setIfInBounds_ne
abbrev Gk:=@List.length_nil
abbrev Gl:=@Nat.add_comm
abbrev Gm:=@List.any_map
abbrev Gn:=@List.length_set
abbrev Gp:=@List.filter_map
abbrev Gq:=@List.find?_cons
abbrev Gr:=@and_true
abbrev Gs:=@List.map_replicate
abbrev Gt:=@Array.getElem_setIfInBounds
abbrev Gu:=@List.getElem_idxOf
abbrev Gv:=@Int.tmod_lt_of_pos
abbrev Gw:=@Array.toList_setIfInBounds
abbrev Gx:=@Prod.mk.injEq
abbrev Gy:=@Array.getElem?_eq_some_iff
abbrev Gz:=@Bool.true_and
abbrev GA:=@List.append_assoc
abbrev GB:=@List.size_toArray
abbrev GC:=@beq_iff_eq
abbrev GD:=@Option.isNone_iff_eq_none
abbrev GE:=@List.length_erase_of_mem
abbrev GF:=@decide_eq_false_iff_not
abbrev GG:=@List.getElem?_replicate
abbrev GH:=@Option.map_none
abbrev GI:=@Nat.zero_le
abbrev GJ:=@List.count_nil
abbrev GK:=@true_and
abbrev GL:=@List.all_cons
abbrev GM:=ByteArray
inductive Kd where|own|far|lent (h c:Nat) (root:Bool) deriving DecidableEq
def Kd.unr:Kd→Kd| .lent h c _=>.lent h c false|k=>k
inductive T (δ:Type) where|v (x:Value)|any|s (k:Kd) (d:δ) (sz:Nat) (rows:List (List (T δ)))
inductive An where|fn (f:FuncId)|arr (offs:List Nat)
inductive Sl (δ β:Type) where|any|one (t:T δ)|agg (ts:List (T δ))|box (b:β) (ts:List (T δ))|al (h c:Nat) (st:List (Nat×Nat)) (lo len:Nat)|pb (h off:Nat)|pe (h c:Nat) (st:List (Nat×Nat)) (i off:Nat)|im (k:Kd) (b:β) (ts:List (T δ)) (off:Nat)|fni (f:FuncId) (caps:List (β×List (T δ)))|clo (f:An) (hs:List Nat)|tup (rs:List (Bool×List (T δ)))
abbrev St (δ β:Type):=List (Sl δ β)
section
variable  {δ β : Type}
def T.kd (k:Kd):T δ→T δ| .s .own d z r=>.s k d z r|t=>t
def T.view (k:Kd):T δ→T δ| .s _ d z r=>.s k d z r|t=>t
def T.isOwn:T δ→Bool| .s .own _ _ _=>true|_=>false
def T.fine:T δ→Bool| .s .own _ _ _=>true| .s _ _ _ _=>false|_=>true
def T.hole:T δ→T δ| .s .own _ _ _=>.any|t=>t
def T.dead (p:Nat→Nat→Bool):T δ→T δ| .s (.lent h c a) d z r=>if p h c then .any else .s (.lent h c a) d z r|t=>t
def Sl.dead (p:Nat→Nat→Bool)(q:Nat→Nat→Bool→Bool):Sl δ β→Sl δ β
 | .one t=>.one (t.dead p)
 | .agg ts=>.agg (ts.map (T.dead p))
 | .box b ts=>.box b (ts.map (T.dead p))
 | .al h c st lo len=>if q h c (!st.isEmpty)then .any else .al h c st lo len
 | .pe h c st i off=>if q h c (!st.isEmpty)then .any else .pe h c st i off
 | .im k b ts off=>match k with| .lent h c _=>(if p h c then .any else .im k b ts off)|_=>.im k b ts off
 | .tup rs=>.tup (rs.map fun r=>(r.1,r.2.map (T.dead p)))
 |x=>x
def Sl.gone (t:Nat):Sl δ β→Sl δ β| .pb h off=>if h=t then .any else .pb h off| .clo f hs=>if hs.contains t then .any else .clo f hs|x=>x
def St.dead (p:Nat→Nat→Bool)(q:Nat→Nat→Bool→Bool)(D:St δ β):St δ β:=D.map (Sl.dead p q)
def atH (t:Nat):Nat→Nat→Bool:=fun h _=>h==t
def bM (t u:Nat):Nat→Nat→Bool:=fun h c=>h==t&&c==u
def qH (t:Nat):Nat→Nat→Bool→Bool:=fun h _ _=>h==t
def qHC (t u:Nat):Nat→Nat→Bool→Bool:=fun h c _=>h==t&&c==u
def gA (t u:Nat):Nat→Nat→Bool→Bool:=fun h c a=>h==t&&c==u&&a
def qNo:Nat→Nat→Bool→Bool:=fun _ _ _=>false
def aB (t:Nat)(D:St δ β):St δ β:=((D.dead (atH t) (qH t)).map (Sl.gone t)).set t .any
def Sl.isHome:Sl δ β→Bool| .one t=>t.isOwn| .agg ts=>ts.any T.isOwn| .box _ _=>true| .tup rs=>rs.any fun r=>r.2.any T.isOwn|_=>false
def Sl.clean (t:Nat)(x:Sl δ β):Sl δ β:=(x.dead (atH t) (qH t)).gone t
def aE (D:St δ β)(dst:Option Nat)(x:Sl δ β):St δ β :=
 match dst with
 |none=>D
 |some t=>(aB t D).set t (x.clean t)
def aD:Sl δ β→Option (List (T δ))| .one t=>some [t]| .agg ts=>some ts| .box _ ts=>some ts|_=>none
def setCells (cs:List (T δ)):Sl δ β→Sl δ β| .one _=>.one (cs.headD .any)| .agg _=>.agg cs| .box b _=>.box b cs|x=>x
def am (D:St δ β)(h c:Nat):Option (T δ):=(D[h]?.bind aD).bind (·[c]?)
def c7 (D:St δ β)(h c:Nat)(t:T δ):Option (St δ β):=
 match D[h]? with
 |some x=>(aD x).map fun cs=>D.set h (setCells (cs.set c t) x)
 |none=>none
def getN:T δ→List (Nat×Nat)→Option (T δ)
 |t,[]=>some t
 | .s _ _ _ rows,(i,c)::st=>(rows[i]?.bind (·[c]?)).bind (getN · st)
 |_,_=>none
def cV (f:T δ→Option (T δ)):T δ→List (Nat×Nat)→Option (T δ)|t,[]=>f t| .s k d z rows,(i,c)::st =>(rows[i]?).bind fun row=>(row[c]?).bind fun u=>(cV f u st).map fun u'=>.s k d z (rows.set i (row.set c u'))|_,_=>none
def bC (D:St δ β)(h c:Nat)(st:List (Nat×Nat)):Option (T δ):=(am D h c).bind (getN · st)
def bU (f:T δ→Option (T δ))(D:St δ β)(h c:Nat)(st:List (Nat×Nat)):Option (St δ β):=(am D h c).bind fun t=>(cV f t st).bind fun t'=>c7 D h c t'
end
structure Dec where
 b:Nat
 o:Nat
 cap:Nat
 nil:Bool
 sp:Option Addr:=none
def Dec.addr (d:Dec):Option Addr :=
 match d.sp with
 |some a=>some a
 |none=>if d.nil then none else some ⟨d.b,d.o,none⟩
theorem Dec.addr_none {d:Dec}(h:d.sp=none):d.addr=if d.nil then none else some ⟨d.b,d.o,none⟩:=by unfold Dec.addr;rw[h]
abbrev DT:=T Dec
abbrev DSl:=Sl Dec (Nat×Nat)
abbrev DSt:=List DSl
def VT:DT→Value→Prop| .v x,y=>y=x∧y.oneCell'=true| .any,y=>y.oneCell'=true| .s _ d _ rows,y=>y = .slice d.addr rows.length d.cap
theorem VT.one {t:DT}{y:Value}(h:VT t y):y.oneCell'=true:=by
 cases t with
 |v x=>exact h.2
 |any=>exact h
 |s k d z r=>rw[show y=_ from h];rfl
mutual
def bl:DT→List Nat| .v _=>[]| .any=>[]| .s _ d _ rows=>(if d.nil then []else [d.b])++nl rows
def pG:List DT→List Nat|[]=>[]|t::r=>bl t++pG r
def nl:List (List DT)→List Nat|[]=>[]|r::rs=>pG r++nl rs
end
theorem yZ (r:List DT):pG r=r.flatMap bl:=by
 induction r with
 |nil=>simp[pG]
 |cons a r b=>simp[pG,b]
theorem xG (r:List (List DT)):nl r=r.flatMap fun x=>x.flatMap bl:=by
 induction r with
 |nil=>simp[nl]
 |cons a r b=>simp[nl,b,yZ]
theorem bR (k:Kd)(d:Dec)(z:Nat)(rows:List (List DT)):
  bl (.s k d z rows)=(if d.nil then []else [d.b])++rows.flatMap fun x=>x.flatMap bl:=by
 rw[bl,xG]
inductive Holds (w:World):DT→Prop where|v (x:Value):Holds w (.v x)|any:Holds w .any|e (k:Kd) (d:Dec) (z:Nat):Holds w (.s k d z [])|s (k:Kd) (d:Dec) (z:Nat) (rows:List (List DT)) (h:d.nil=false) (hsp:d.sp=none) (c:Array Value) (e:TypeId) (f:Nat×Nat) (hb:w.heap[d.b]?=some (.cells c e f)) (hcap:rows.length≤d.cap) (hz:∀(i:Nat)(row:List DT),rows[i]?=some row→row.length=z) (hv:∀(i:Nat)(row:List DT)(j:Nat)(t:DT),rows[i]?=some row→row[j]?=some t→∃y,c[d.o+i*z+j]?=some y∧VT t y) (hh:∀(i:Nat)(row:List DT)(j:Nat)(t:DT),rows[i]?=some row→row[j]?=some t→Holds w t):Holds w (.s k d z rows)
inductive OwnT (w:World):DT→Prop where|v (x:Value):OwnT w (.v x)|any:OwnT w .any|nil (d:Dec) (z:Nat) (h:d.nil=true) (hsp:d.sp=none) (hc:d.cap=0):OwnT w (.s .own d z [])|s (d:Dec) (z:Nat) (rows:List (List DT)) (h:d.nil=false) (hsp:d.sp=none) (c:Array Value) (e:TypeId) (lo hi:Nat) (hb:w.heap[d.b]?=some (.cells c e (lo,hi))) (hcap:rows.length≤d.cap) (hroom:d.o+d.cap*z≤c.size) (hf:∀x,d.o≤x→x<d.o+d.cap*z→¬(lo≤x∧x<hi)) (hh:∀(i:Nat)(row:List DT)(j:Nat)(t:DT),rows[i]?=some row→row[j]?=some t→OwnT w t):OwnT w (.s .own d z rows)
theorem OwnT.sp {w:World}{k:Kd}{d:Dec}{z:Nat}{rows:List (List DT)}(h:OwnT w (.s k d z rows)):d.sp=none:=by
 cases h with
 |nil _ _ _ hsp _=>exact hsp
 |s _ _ _ _ hsp=>exact hsp
theorem Holds.sp {w:World}{k:Kd}{d:Dec}{z:Nat}{rows:List (List DT)}(h:Holds w (.s k d z rows))(a:rows≠[]):d.sp=none:=by
 cases h with
 |e=>exact absurd rfl a
 |s _ _ _ _ _ hsp=>exact hsp
theorem fO {k:Kd}{d:Dec}{z:Nat}{rows:List (List DT)}(h:d.nil=false):d.b∈bl (.s k d z rows):=by rw[bR,h];simp
theorem fo {k:Kd}{d:Dec}{z:Nat}{rows:List (List DT)}{i j:Nat}{row:List DT}{t:DT}(hi:rows[i]?=some row)(hj:row[j]?=some t){b:Nat}(hb:b∈bl t):
  b∈bl (.s k d z rows):=by
 rw[bR];simp only[EI,Eq];exact .inr ⟨row,Ef hi,t,Ef hj,hb⟩
theorem cQ {w:World}{b:Nat}{o:Obj}(h:w.heap[b]?=some o):b<w.heap.size:=by
 rcases Em b w.heap.size with g|g
 ·exact g
 ·rw[E9 g]at h;cases h
theorem Holds.frame {w w':World}{t:DT}(h:Holds w t):(∀b∈bl t,b<w.heap.size→w'.heap[b]?=w.heap[b]?)→Holds w' t:=by
 induction h with
 |v x=>exact fun _=>.v x
 |any=>exact fun _=>.any
 |e k d z=>exact fun _=>.e k d z
 |s k d z rows h hsp c e f hb hcap hz hv hh g =>intro hs;exact .s k d z rows h hsp c e f (by rw[hs _ (fO h) (cQ hb)];exact hb) hcap hz hv fun i row j t hi a =>g i row j t hi a fun b hb=>hs b (fo hi a hb)
theorem OwnT.frame {w w':World}{t:DT}(h:OwnT w t):(∀b∈bl t,b<w.heap.size→w'.heap[b]?=w.heap[b]?)→OwnT w' t:=by
 induction h with
 |v x=>exact fun _=>.v x
 |any=>exact fun _=>.any
 |nil d z h hsp hc=>exact fun _=>.nil d z h hsp hc
 |s d z rows h hsp c e lo hi hb hcap hroom hf hh f =>intro hs;exact .s d z rows h hsp c e lo hi (by rw[hs _ (fO h) (cQ hb)];exact hb) hcap hroom hf fun i row j t hi a =>f i row j t hi a fun b hb=>hs b (fo hi a hb)
theorem Holds.lt {w:World}{t:DT}(h:Holds w t)(l:OwnT w t):∀b∈bl t,b<w.heap.size:=by
 induction h with
 |v x=>intro b hb;simp[bl]at hb
 |any=>intro b hb;simp[bl]at hb
 |e k d z =>
  intro b hb;rw[bR]at hb;cases l with
  |nil d z h hsp hc=>simp[h]at hb
  |s d z rows h hsp c e lo hi a =>
   simp[h]at hb;subst hb;rcases Em d.b w.heap.size with g|g
   ·exact g
   ·rw[E9 g]at a;cases a
 |s k d z rows h hsp c e f hb hcap hz hv hh n =>
  intro b a;rw[bR,h]at a;simp only[EE,E3,EI,Eq,Er]at a;rcases a with rfl|⟨row,o,t,p,a⟩
  ·rcases Em d.b w.heap.size with g|g
   ·exact g
   ·rw[E9 g]at hb;cases hb
  ·obtain⟨i,hi⟩:=En o;obtain⟨j,m⟩:=En p;refine n i row j t hi m ?_ b a;cases l with
   |nil d z q hsp hc=>simp[h]at q
   |s d z rows h hsp c e lo hi hb hcap hroom hf hh=>exact hh i row j t ‹_› m
def ownR (t:DT):List Nat:=if t.isOwn then bl t else []
def ownBl:DSl→List Nat| .one t=>ownR t| .agg ts=>ts.flatMap ownR| .box b ts=>b.1::ts.flatMap ownR| .tup rs=>rs.flatMap fun r=>r.2.flatMap ownR|_=>[]
def af:DSl→List DT
 | .one t=>[t]
 | .agg ts=>ts
 | .box _ ts=>ts
 | .im _ _ ts _=>ts
 | .fni _ caps=>caps.flatMap (·.2)
 | .tup rs=>rs.flatMap (·.2)
 |_=>[]
def rootsO:DSl→List DT
 | .one t=>[t]
 | .agg ts=>ts
 | .box _ ts=>ts
 | .tup rs=>rs.flatMap (·.2)
 |_=>[]
def VCells (ts:List DT)(cs:List Value):Prop:=ts.length=cs.length∧∀(i:Nat)(t:DT)(y:Value),ts[i]?=some t→cs[i]?=some y→VT t y
def VPart (r:Bool×List DT)(y:Value):Prop:=if r.1 then ∃cs:Array Value,y = .agg cs∧VCells r.2 cs.toList else ∃t,r.2=[t]∧VT t y
def cn (D:DSt)(h c:Nat)(st:List (Nat×Nat))(d:Dec)(z n:Nat):Prop :=∃t,am D h c=some t∧t.isOwn=true∧∃k rows,getN t st=some (.s k d z rows)∧rows.length=n
def sR:An→List (Nat×Nat)→Value| .fn f,a=>.func (.func f) #[] (a.map fun b=>Value.pointer (some ⟨b.1,b.2,none⟩)).toArray| .arr offs,a=>.agg ((a.zip offs).map fun p=>Value.pointer (some ⟨p.1.1,p.1.2+p.2,none⟩)).toArray
def VS (D:DSt):DSl→Value→Prop| .any,_=>True| .one t,y=>VT t y| .agg ts,y=>∃cs:Array Value,y = .agg cs∧VCells ts cs.toList| .box b _,y=>y = .pointer (some ⟨b.1,b.2,none⟩)| .al h c st lo len,y=>∃d z n a,cn D h c st d z n∧lo+len≤n∧y = .slice a len (d.cap-lo)∧(lo<d.cap→a=some ⟨d.b,d.o+lo*z,none⟩)∧(lo=0→a=if d.nil then none else some ⟨d.b,d.o,none⟩)| .pb h off,y=>∃b ts,D[h]?=some (.box b ts)∧y = .pointer (some ⟨b.1,b.2+off,none⟩)| .pe h c st i off,y=>∃d z n,cn D h c st d z n∧i<n∧y = .pointer (some ⟨d.b,d.o+i*z+off,none⟩)| .im _ b _ off,y=>y = .pointer (some ⟨b.1,b.2+off,none⟩)| .fni f caps,y=>y = .func (.func f) #[] (caps.map fun b=>Value.pointer (some ⟨b.1.1,b.1.2,none⟩)).toArray| .clo f hs,y=>∃e:List (Nat×Nat),e.length=hs.length∧(∀(i h:Nat)(b:Nat×Nat),hs[i]?=some h→e[i]?=some b→∃ts,D[h]?=some (.box b ts)) ∧ y=sR f e| .tup rs,y=>∃g:Array Value,y = .tuple g∧rs.length=g.toList.length∧∀(i:Nat)(r:Bool×List DT)(v:Value),rs[i]?=some r→g.toList[i]?=some v→VPart r v
def Lies (w:World)(b:Nat×Nat)(ts:List DT):Prop :=∃c e f,w.heap[b.1]?=some (.cells c e f)∧∀(j:Nat)(t:DT),ts[j]?=some t→∃y,c[b.2+j]?=some y∧VT t y
def Free (w:World)(b:Nat×Nat)(n:Nat):Prop :=∀c e lo hi,w.heap[b.1]?=some (.cells c e (lo,hi))→∀x,b.2≤x→x<b.2+n→¬(lo≤x∧x<hi)
def sG (w:World):DSl→Prop| .box b ts=>Lies w b ts∧Free w b ts.length| .im _ b ts _=>Lies w b ts| .fni _ caps=>∀p∈caps,Lies w p.1 p.2|_=>True
def MemS (w:World)(s:DSl):Prop :=(∀t∈af s,Holds w t)∧(∀t∈rootsO s,t.isOwn=true→OwnT w t)∧sG w s
structure Cx where
 w0:World
 X:List Nat
 Y:Nat→Prop
def noY:Nat→Prop:=fun _=>False
def Cx.may (cx:Cx)(b:Nat):Prop:=cx.w0.heap.size≤b∨b∈cx.X
def Cx.keep (cx:Cx)(b:Nat):Prop:=b<cx.w0.heap.size∧b∉cx.X
def Cx.far (cx:Cx)(b:Nat):Prop:=cx.keep b∧¬cx.Y b
theorem Cx.keep_not {cx:Cx}{b:Nat}(h:cx.keep b):¬cx.may b:=fun a=>a.elim (fun g=>by have:=h.1;omega) h.2
theorem Cx.far_not {cx:Cx}{b:Nat}(h:cx.far b):¬cx.may b:=Cx.keep_not h.1
structure Cx.Fr (cx:Cx)(w:World):Prop where
 os:w.os=cx.w0.os
 tape:w.tape=cx.w0.tape
 output:w.output=cx.w0.output
 size:cx.w0.heap.size≤w.heap.size
 same:∀b,cx.keep b→w.heap[b]?=cx.w0.heap[b]?
def aS (cx:Cx)(D:DSt):DT→Prop| .s .far d z rows=>∀x∈bl (.s .far d z rows),cx.far x| .s (.lent h c b) d z rows=>∃t,am D h c=some t∧t.isOwn=true∧(∀x∈bl (.s (.lent h c b) d z rows),x∈bl t)∧(b=true→∃e a,t = .s .own d e a∧a.length=rows.length)|_=>True
def iE (cx:Cx)(D:DSt)(k:Kd)(b:Nat)(ts:List DT):Prop :=
 match k with
 | .own=>False
 | .far=>cx.far b∧∀t∈ts,∀x∈bl t,cx.far x
 | .lent h c _=>∃t,am D h c=some t∧t.isOwn=true∧b∈bl t∧∀u∈ts,∀x∈bl u,x∈bl t
def cl (cx:Cx)(D:DSt):DSl→Prop| .im k b ts _=>iE cx D k b.1 ts| .fni _ caps=>∀p∈caps,cx.far p.1.1∧∀t∈p.2,∀x∈bl t,cx.far x|s=>∀t∈af s,aS cx D t
def aO (D:DSt)(b:Nat):Nat:=(D.flatMap ownBl).count b
def az (P:List (DT×Value))(b:Nat):Nat:=(P.flatMap fun p=>ownR p.1).count b
structure Inv (cx:Cx)(D:DSt)(P:List (DT×Value))(tm:Array Value)(w:World):Prop where
 size:D.length=tm.size
 val:∀(t:Nat)(s:DSl),D[t]?=some s→VS D s (tm.getD t undef)
 mem:∀s∈D,MemS w s
 kind:∀s∈D,cl cx D s
 pend:∀p∈P,VT p.1 p.2∧Holds w p.1∧(p.1.isOwn=true→OwnT w p.1)∧(p.1.isOwn=false→∀x∈bl p.1,cx.far x)
 once:∀b,aO D b+az P b≤1
 bnd:∀b,0<aO D b+az P b→cx.may b∧b<w.heap.size
 frame:cx.Fr w
def bz (t:Nat):DSl→Prop| .al h _ _ _ _=>h=t| .pe h _ _ _ _=>h=t| .pb h _=>h=t| .clo _ hs=>t∈hs| .im (.lent h _ _) _ _ _=>h=t| .one u=>∃c a d z r,u = .s (.lent t c a) d z r| .agg ts=>∃u∈ts,∃c a d z r,u = .s (.lent t c a) d z r| .box _ ts=>∃u∈ts,∃c a d z r,u = .s (.lent t c a) d z r| .tup rs=>∃p∈rs,∃u∈p.2,∃c a d z r,u = .s (.lent t c a) d z r|_=>False
theorem gw {D:DSt}{t h c:Nat}{x:DSl}(a:h≠t):am (D.set t x) h c=am D h c:=by unfold am;rw[Es (fun e=>a e.symm)]
theorem oV {D:DSt}{t h c:Nat}{st:List (Nat×Nat)}{x:DSl}{d:Dec}{z n:Nat}(a:h≠t):cn (D.set t x) h c st d z n↔cn D h c st d z n:=by unfold cn;rw[gw a]
theorem nk {D:DSt}{t:Nat}{x s:DSl}{y:Value}(a:¬bz t s)(h:VS D s y):VS (D.set t x) s y:=by
 cases s with
 |al d c st lo len=>simp only[VS,oV (show d≠t from a)]at *;exact h
 |pe d c st i off=>simp only[VS,oV (show d≠t from a)]at *;exact h
 |pb d off =>simp only[VS]at *;rw[Es (fun e=>a e.symm)];exact h
 |clo f hs =>
  simp only[VS]at *;obtain⟨g,j,k,l⟩:=h;refine⟨g,j,fun i h b hi hb=>?_,l⟩;have:h≠t:=fun e=>a (e ▸ Ef hi)
  rw[Es (fun e=>this e.symm)];exact k i h b hi hb
 |_=>exact h
theorem kY {cx:Cx}{D:DSt}{t:Nat}{x:DSl}{u:DT}(b:∀c a d z r,u ≠ .s (.lent t c a) d z r)(h:aS cx D u):aS cx (D.set t x) u:=by
 cases u with
 |v x=>exact trivial
 |any=>exact trivial
 |s k d z r =>
  cases k with
  |own=>exact trivial
  |far=>exact h
  |lent f c a =>
   have:f≠t:=fun e=>b c a d z r (by rw[e])
   simp only[aS,gw this]at *;exact h
theorem jQ {cx:Cx}{D:DSt}{t:Nat}{x s:DSl}(g:¬bz t s)(h:cl cx D s):cl cx (D.set t x) s:=by
 cases s with
 |im k b ts off =>
  cases k with
  |own=>exact h
  |far=>exact h
  |lent i c a=>simp only[cl,iE,gw (show i≠t from g)]at *;exact h
 |fni f caps=>exact h
 |one u=>exact fun v hv=>by simp[af]at hv;subst hv;exact kY (fun c a d z r e=>g ⟨c,a,d,z,r,e⟩) (h _ (by simp[af]))
 |agg ts=>exact fun v hv=>kY (fun c a d z r e=>g ⟨v,hv,c,a,d,z,r,e⟩) (h _ hv)
 |box b ts=>exact fun v hv=>kY (fun c a d z r e=>g ⟨v,hv,c,a,d,z,r,e⟩) (h _ hv)
 |tup rs =>
  refine fun v hv=>kY (fun c a d z r e=>?_) (h _ hv)
  simp only[af,Eq]at hv;obtain⟨p,j,hv⟩:=hv;exact g ⟨p,j,v,hv,c,a,d,z,r,e⟩
 |any=>exact fun v hv=>by simp[af]at hv
 |al=>exact fun v hv=>by simp[af]at hv
 |pe=>exact fun v hv=>by simp[af]at hv
 |pb=>exact fun v hv=>by simp[af]at hv
 |clo=>exact fun v hv=>by simp[af]at hv
theorem T.dead_own {p:Nat→Nat→Bool}{t:DT}(h:t.isOwn=true):t.dead p=t:=by
 cases t with
 |v x=>rfl
 |any=>rfl
 |s k d z r=>cases k<;>simp_all[T.isOwn,T.dead]
theorem T.dead_cases (p:Nat→Nat→Bool)(t:DT):t.dead p=t∨(t.dead p = .any∧t.isOwn=false):=by
 cases t with
 |v x=>exact .inl rfl
 |any=>exact .inl rfl
 |s k d z r =>
  cases k with
  |own=>exact .inl rfl
  |far=>exact .inl rfl
  |lent h c a =>
   simp only[T.dead];split
   ·exact .inr ⟨rfl,rfl⟩
   ·exact .inl rfl
theorem nQ (p:Nat→Nat→Bool)(t:DT):ownR (t.dead p)=ownR t:=by
 rcases T.dead_cases p t with h|⟨h,a⟩
 ·rw[h]
 ·rw[h];simp only[ownR,a];rfl
theorem ov {p:Nat→Nat→Bool}{t:DT}{y:Value}(h:VT t y):VT (t.dead p) y:=by
 rcases T.dead_cases p t with e|⟨e,_⟩
 ·rwa [e]
 ·rw[e];exact h.one
theorem wt {p:Nat→Nat→Bool}{t:DT}{w:World}(h:Holds w t):Holds w (t.dead p):=by
 rcases T.dead_cases p t with e|⟨e,_⟩
 ·rwa [e]
 ·rw[e];exact .any
theorem lZ (p:Nat→Nat→Bool)(q:Nat→Nat→Bool→Bool)(s:DSl):aD (s.dead p q)=(aD s).map (List.map (T.dead p)):=by
 cases s with
 |al h c st lo len=>simp only[Sl.dead];split<;>rfl
 |pe h c st i off=>simp only[Sl.dead];split<;>rfl
 |im k b ts off =>
  simp only[Sl.dead];split
  ·split<;>rfl
  ·rfl
 |_=>rfl
theorem uP (p:Nat→Nat→Bool)(q:Nat→Nat→Bool→Bool)(D:DSt)(h c:Nat):am (St.dead p q D) h c=(am D h c).map (T.dead p):=by
 unfold am St.dead;rw[Et];cases D[h]? with
 |none=>rfl
 |some s =>
  simp only[Ee,Eg,lZ];cases aD s with
  |none=>rfl
  |some cs=>simp[Et]
theorem dp {p:Nat→Nat→Bool}{q:Nat→Nat→Bool→Bool}{D:DSt}{h c:Nat}{t:DT}(e:am D h c=some t)(a:t.isOwn=true):am (St.dead p q D) h c=some t:=by rw[uP,e,Ee,T.dead_own a]
theorem tZ {p:Nat→Nat→Bool}{q:Nat→Nat→Bool→Bool}{D:DSt}{h c:Nat}{st:List (Nat×Nat)}{d:Dec}{z n:Nat}(e:cn D h c st d z n):cn (St.dead p q D) h c st d z n:=by obtain⟨t,b,a,f⟩:=e;exact⟨t,dp b a,a,f⟩
theorem sL {p:Nat→Nat→Bool}{q:Nat→Nat→Bool→Bool}{D:DSt}{h:Nat}{b:Nat×Nat}{ts:List DT}(e:D[h]?=some (.box b ts)):(St.dead p q D)[h]?=some (.box b (ts.map (T.dead p))):=by unfold St.dead;rw[Et,e];rfl
theorem lm {p:Nat→Nat→Bool}{ts:List DT}{cs:List Value}(h:VCells ts cs):VCells (ts.map (T.dead p)) cs:=by refine⟨by simpa using h.1,fun i t y hi a=>?_⟩;rw[Et,Ei]at hi;obtain⟨t',hi,rfl⟩:=hi;exact ov (h.2 i t' y hi a)
theorem xC {p:Nat→Nat→Bool}{w:World}{b:Nat×Nat}{ts:List DT}(h:Lies w b ts):Lies w b (ts.map (T.dead p)):=by obtain⟨c,e,f,hb,hv⟩:=h;refine⟨c,e,f,hb,fun j t a=>?_⟩;rw[Et,Ei]at a;obtain⟨t',a,rfl⟩:=a;obtain⟨y,d,g⟩:=hv j t' a;exact⟨y,d,ov g⟩
theorem vI {D D':DSt}(l:∀h c st d z n,cn D h c st d z n→cn D' h c st d z n)
  (hb:∀(h:Nat)(b:Nat×Nat)(ts:List DT),D[h]?=some (Sl.box b ts)→∃ts':List DT,D'[h]?=some (Sl.box b ts')) {s:DSl} {y:Value} (h:VS D s y):VS D' s y:=by
 cases s with
 |al m c st lo len =>obtain⟨d,z,n,a,e,g⟩:=h;exact⟨d,z,n,a,l _ _ _ _ _ _ e,g⟩
 |pe m c st i off =>obtain⟨d,z,n,e,g⟩:=h;exact⟨d,z,n,l _ _ _ _ _ _ e,g⟩
 |pb m off =>obtain⟨b,ts,e,g⟩:=h;obtain⟨ts',j⟩:=hb _ _ _ e;exact⟨b,ts',j,g⟩
 |clo f hs =>obtain⟨o,e,g,j⟩:=h;refine⟨o,e,fun i h b hi k=>?_,j⟩;obtain⟨ts,p⟩:=g i h b hi k;exact hb _ _ _ p
 |_=>exact h
theorem vG {p:Nat→Nat→Bool}{q:Nat→Nat→Bool→Bool}{D:DSt}{s:DSl}{y:Value}(h:VS D s y):VS (St.dead p q D) (s.dead p q) y:=by
 have a:VS (St.dead p q D) s y:=vI (fun _ _ _ _ _ _=>tZ) (fun _ _ _ e=>⟨_,sL e⟩) h;cases s with
 |one t=>exact ov h
 |agg ts =>obtain⟨cs,d,f⟩:=h;exact⟨cs,d,lm f⟩
 |al m c st lo len=>simp only[Sl.dead];split<;>first|trivial|exact a
 |pe m c st i off=>simp only[Sl.dead];split<;>first|trivial|exact a
 |im k b ts off =>
  simp only[Sl.dead];split
  ·split<;>first|trivial|exact a
  ·exact a
 |tup rs =>
  obtain⟨n,d,f,o⟩:=h;refine⟨n,d,by simpa using f,fun i r v hi hv=>?_⟩;rw[Et,Ei]at hi;obtain⟨u,hi,rfl⟩:=hi;have:=o i u v hi hv;unfold VPart at *;simp only;split
  ·rename_i g;simp only[g,EV]at this;obtain⟨cs,j,l⟩:=this;exact⟨cs,j,lm l⟩
  ·rename_i g;simp only[g]at this;obtain⟨t,j,l⟩:=this;exact⟨t.dead p,by rw[j];rfl,ov l⟩
 |_=>exact a
theorem nU {p:Nat→Nat→Bool}{q:Nat→Nat→Bool→Bool}{s:DSl}{u:DT}(h:u∈af (s.dead p q)):
  ∃v∈af s,u=v∨(u = .any):=by
 have a:∀(ts:List DT),u∈ts.map (T.dead p)→∃v∈ts,u=v∨u = .any:=by
  intro ts d;obtain⟨v,hv,rfl⟩:=Ex.1 d;rcases T.dead_cases p v with e|⟨e,_⟩
  ·exact⟨v,hv,.inl e⟩
  ·exact⟨v,hv,.inr e⟩
 cases s with
 |one t=>exact a [t] h
 |agg ts=>exact a ts h
 |box b ts=>exact a ts h
 |al j c st lo len=>simp only[Sl.dead]at h;split at h<;>simp[af]at h
 |pe j c st i off=>simp only[Sl.dead]at h;split at h<;>simp[af]at h
 |im k b ts off =>
  simp only[Sl.dead]at h;split at h
  ·split at h
   ·simp[af]at h
   ·exact⟨u,h,.inl rfl⟩
  ·exact⟨u,h,.inl rfl⟩
 |tup rs =>simp only[Sl.dead,af,Eq,Ex]at h;obtain⟨r,⟨g,l,rfl⟩,d⟩:=h;obtain⟨v,hv,e⟩:=a g.2 d;exact⟨v,by simp only[af,Eq];exact⟨g,l,hv⟩,e⟩
 |any=>simp[Sl.dead,af]at h
 |pb=>simp[Sl.dead,af]at h
 |clo=>simp[Sl.dead,af]at h
 |fni f caps=>exact⟨u,h,.inl rfl⟩
theorem vr {p:Nat→Nat→Bool}{q:Nat→Nat→Bool→Bool}{s:DSl}{u:DT}(h:u∈rootsO (s.dead p q)):
  ∃v∈rootsO s,u=v∨(u = .any):=by
 have a:∀(ts:List DT),u∈ts.map (T.dead p)→∃v∈ts,u=v∨u = .any:=by
  intro ts d;obtain⟨v,hv,rfl⟩:=Ex.1 d;rcases T.dead_cases p v with e|⟨e,_⟩
  ·exact⟨v,hv,.inl e⟩
  ·exact⟨v,hv,.inr e⟩
 cases s with
 |one t=>exact a [t] h
 |agg ts=>exact a ts h
 |box b ts=>exact a ts h
 |al j c st lo len=>simp only[Sl.dead]at h;split at h<;>simp[rootsO]at h
 |pe j c st i off=>simp only[Sl.dead]at h;split at h<;>simp[rootsO]at h
 |im k b ts off =>
  simp only[Sl.dead]at h;split at h
  ·split at h<;>simp[rootsO]at h
  ·simp[rootsO]at h
 |tup rs =>simp only[Sl.dead,rootsO,Eq,Ex]at h;obtain⟨r,⟨g,l,rfl⟩,d⟩:=h;obtain⟨v,hv,e⟩:=a g.2 d;exact⟨v,by simp only[rootsO,Eq];exact⟨g,l,hv⟩,e⟩
 |any=>simp[Sl.dead,rootsO]at h
 |pb=>simp[Sl.dead,rootsO]at h
 |clo=>simp[Sl.dead,rootsO]at h
 |fni f caps=>simp[Sl.dead,rootsO]at h
theorem qX {p:Nat→Nat→Bool}{q:Nat→Nat→Bool→Bool}{s:DSl}{w:World}(h:MemS w s):MemS w (s.dead p q):=by
 obtain⟨f,g,a⟩:=h;refine⟨fun u d=>?_,fun u d e=>?_,?_⟩
 ·obtain⟨v,hv,rfl|rfl⟩:=nU d
  ·exact f _ hv
  ·exact .any
 ·obtain⟨v,hv,rfl|rfl⟩:=vr d
  ·exact g _ hv e
  ·cases e
 ·cases s with
  |box b ts=>exact⟨xC a.1,by simpa using a.2⟩
  |al j c st lo len=>simp only[Sl.dead];split<;>trivial
  |pe j c st i off=>simp only[Sl.dead];split<;>trivial
  |im k b ts off =>
   simp only[Sl.dead];split
   ·split
    ·trivial
    ·exact a
   ·exact a
  |_=>exact a
theorem pB {cx:Cx}{D D':DSt}(hc:∀h c t,am D h c=some t→t.isOwn=true→am D' h c=some t){u:DT}(h:aS cx D u):aS cx D' u:=by
 cases u with
 |v x=>trivial
 |any=>trivial
 |s k d z r =>
  cases k with
  |own=>trivial
  |far=>exact h
  |lent f c g =>obtain⟨t,b,a,e⟩:=h;exact⟨t,hc _ _ _ b a,a,e⟩
theorem uI {cx:Cx}{D D':DSt}(hc:∀h c t,am D h c=some t→t.isOwn=true→am D' h c=some t){k:Kd}{b:Nat}{ts:List DT}(h:iE cx D k b ts):iE cx D' k b ts:=by
 cases k with
 |own=>exact h
 |far=>exact h
 |lent f c g =>obtain⟨t,d,a,e⟩:=h;exact⟨t,hc _ _ _ d a,a,e⟩
theorem pA {cx:Cx}{D D':DSt}(hc:∀h c t,am D h c=some t→t.isOwn=true→am D' h c=some t){s:DSl}(h:cl cx D s):cl cx D' s:=by
 cases s with
 |im k b ts off=>exact uI hc h
 |fni f caps=>exact h
 |_=>exact fun t a=>pB hc (h t a)
theorem py {cx:Cx}{p:Nat→Nat→Bool}{q:Nat→Nat→Bool→Bool}{D:DSt}{s:DSl}(h:cl cx D s):cl cx (St.dead p q D) (s.dead p q):=by
 have a:=pA (D':=St.dead p q D) (fun h c t e l=>dp e l) h;have j:(∀t∈af s,aS cx (St.dead p q D) t)→∀t∈af (s.dead p q),aS cx (St.dead p q D) t:=by
  intro g t d;obtain⟨v,hv,rfl|rfl⟩:=nU d
  ·exact g _ hv
  ·trivial
 cases s with
 |one t=>exact j a
 |agg t=>exact j a
 |box b t=>exact j a
 |tup t=>exact j a
 |im k b ts off =>
  simp only[Sl.dead];split
  ·split
   ·exact fun t d=>by simp[af]at d
   ·exact a
  ·exact a
 |fni f caps=>exact a
 |al m c st lo len=>simp only[Sl.dead];split<;>exact fun t d=>by simp[af]at d
 |pe m c st i off=>simp only[Sl.dead];split<;>exact fun t d=>by simp[af]at d
 |any=>exact a
 |pb=>exact a
 |clo=>exact a
theorem mE (p:Nat→Nat→Bool)(q:Nat→Nat→Bool→Bool)(s:DSl):ownBl (s.dead p q)=ownBl s:=by
 have a:∀ts:List DT,(ts.map (T.dead p)).flatMap ownR=ts.flatMap ownR:=by
  intro ts;induction ts with
  |nil=>rfl
  |cons t ts d=>rw[EB,Ez,Ez,d,nQ]
 cases s with
 |one t=>exact nQ p t
 |agg ts=>exact a ts
 |box b ts=>simp only[Sl.dead,ownBl,a]
 |al e c st lo len=>simp only[Sl.dead];split<;>rfl
 |pe e c st i off=>simp only[Sl.dead];split<;>rfl
 |im k b ts off =>
  simp only[Sl.dead];split
  ·split<;>rfl
  ·rfl
 |tup rs =>
  simp only[Sl.dead,ownBl];induction rs with
  |nil=>rfl
  |cons r rs d=>simp only[EB,Ez,a,d]
 |_=>rfl
theorem gi (p:Nat→Nat→Bool)(q:Nat→Nat→Bool→Bool)(D:DSt):(St.dead p q D).flatMap ownBl=D.flatMap ownBl:=by
 unfold St.dead;induction D with
 |nil=>rfl
 |cons s D a=>simp only[EB,Ez,mE,a]
theorem Inv.dead {cx:Cx}{D:DSt}{P:List (DT×Value)}{tm:Array Value}{w:World}(I:Inv cx D P tm w)(p:Nat→Nat→Bool)(q:Nat→Nat→Bool→Bool):
  Inv cx (St.dead p q D) P tm w where
 size:=by have:=I.size;simpa[St.dead]using this
 val t s hs:=by unfold St.dead at hs;rw[Et,Ei]at hs;obtain⟨s',hs,rfl⟩:=hs;exact vG (I.val t s' hs)
 mem s hs:=by obtain⟨s',a,rfl⟩:=Ex.1 hs;exact qX (I.mem s' a)
 kind s hs:=by obtain⟨s',a,rfl⟩:=Ex.1 hs;exact py (I.kind s' a)
 pend:=I.pend
 once:=by unfold aO;rw[gi];exact I.once
 bnd:=by unfold aO;rw[gi];exact I.bnd
 frame:=I.frame
theorem l3 (t:Nat)(s:DSl):aD (s.gone t)=aD s:=by
 cases s with
 |pb h off=>simp only[Sl.gone];split<;>rfl
 |clo f hs=>simp only[Sl.gone];split<;>rfl
 |_=>rfl
theorem oF (t:Nat)(D:DSt)(h c:Nat):am (D.map (Sl.gone t)) h c=am D h c:=by
 unfold am;rw[Et];cases D[h]? with
 |none=>rfl
 |some s=>simp only[Ee,Eg,l3]
theorem nV (t:Nat)(s:DSl):af (s.gone t)=af s:=by
 cases s with
 |pb h off=>simp only[Sl.gone];split<;>rfl
 |clo f hs=>simp only[Sl.gone];split<;>rfl
 |_=>rfl
theorem oX (t:Nat)(s:DSl):rootsO (s.gone t)=rootsO s:=by
 cases s with
 |pb h off=>simp only[Sl.gone];split<;>rfl
 |clo f hs=>simp only[Sl.gone];split<;>rfl
 |_=>rfl
theorem iT (t:Nat)(s:DSl):ownBl (s.gone t)=ownBl s:=by
 cases s with
 |pb h off=>simp only[Sl.gone];split<;>rfl
 |clo f hs=>simp only[Sl.gone];split<;>rfl
 |_=>rfl
theorem vH {D:DSt}{t:Nat}{s:DSl}{y:Value}(h:VS D s y):VS (D.map (Sl.gone t)) (s.gone t) y:=by
 have a:VS (D.map (Sl.gone t)) s y:=vI (D:=D)
  (fun h c st d z n e=>by unfold cn at *;rw[oF];exact e)
  (fun h b ts e=>⟨ts,by rw[Et,e];rfl⟩) h
 cases s with
 |pb h off=>simp only[Sl.gone];split<;>first|trivial|exact a
 |clo f hs=>simp only[Sl.gone];split<;>first|trivial|exact a
 |_=>exact a
theorem qY {t:Nat}{w:World}{s:DSl}(h:sG w s):sG w (s.gone t):=by
 cases s with
 |pb h off=>simp only[Sl.gone];split<;>trivial
 |clo f hs=>simp only[Sl.gone];split<;>trivial
 |_=>exact h
theorem pz {cx:Cx}{D:DSt}{t:Nat}{s:DSl}(h:cl cx D s):cl cx (D.map (Sl.gone t)) (s.gone t):=by
 have b:=pA (D':=D.map (Sl.gone t)) (fun h c u e _=>by rw[oF];exact e) h;cases s with
 |pb h off=>simp only[Sl.gone];split<;>exact fun t a=>by simp[af]at a
 |clo f hs=>simp only[Sl.gone];split<;>exact fun t a=>by simp[af]at a
 |_=>exact b
theorem Inv.gone {cx:Cx}{D:DSt}{P:List (DT×Value)}{tm:Array Value}{w:World}(I:Inv cx D P tm w)(t:Nat):Inv cx (D.map (Sl.gone t)) P tm w where
 size:=by have:=I.size;simpa using this
 val u s hs:=by rw[Et,Ei]at hs;obtain⟨s',hs,rfl⟩:=hs;exact vH (I.val u s' hs)
 mem s hs:=by obtain⟨s',a,rfl⟩:=Ex.1 hs;have:=I.mem s' a;exact⟨by rw[nV];exact this.1,by rw[oX];exact this.2.1,qY this.2.2⟩
 kind s hs:=by obtain⟨s',a,rfl⟩:=Ex.1 hs;exact pz (I.kind s' a)
 pend:=I.pend
 once:=by
  have:(D.map (Sl.gone t)).flatMap ownBl=D.flatMap ownBl:=by rw[FF];exact FP (fun f=>List.flatMap f D) (funext (iT t))
  unfold aO;rw[this];exact I.once
 bnd:=by
  have:(D.map (Sl.gone t)).flatMap ownBl=D.flatMap ownBl:=by rw[FF];exact FP (fun f=>List.flatMap f D) (funext (iT t))
  unfold aO;rw[this];exact I.bnd
 frame:=I.frame
def bB (t:Nat)(D:DSt):DSt:=(St.dead (atH t) (qH t) D).map (Sl.gone t)
theorem sT (t:Nat)(u:DT)(c:Nat)(a:Bool)(d:Dec)(z:Nat)(r:List (List DT)):u.dead (atH t) ≠ .s (.lent t c a) d z r:=by
 cases u with
 |v x=>simp[T.dead]
 |any=>simp[T.dead]
 |s k b f g =>
  cases k with
  |own=>simp[T.dead]
  |far=>simp[T.dead]
  |lent h i a =>
   simp only[T.dead,atH];by_cases e:h=t
   ·subst e;simp
   ·simp[e]
theorem iV {t:Nat}{D:DSt}:∀s∈bB t D,¬bz t s:=by
 intro s hs a;unfold bB St.dead at hs;rw[ES]at hs;obtain⟨u,j,rfl⟩:=Ex.1 hs;have l:∀ts:List DT,¬ ∃u∈ts.map (T.dead (atH t)),∃c g d z r,u = .s (.lent t c g) d z r:=by rintro ts ⟨u,j,c,g,d,z,r,e⟩;obtain⟨v,hv,rfl⟩:=Ex.1 j;exact sT t v c g d z r e
 cases u with
 |any=>exact a
 |one v=>obtain⟨c,g,d,z,r,e⟩:=a;exact sT t v c g d z r e
 |agg ts=>exact l ts a
 |box b ts=>exact l ts a
 |al h c st lo len =>
  simp only[Function.comp,Sl.dead,qH]at a;by_cases e:h=t
  ·subst e;simp[Sl.gone,bz]at a
  ·simp[e,Sl.gone,bz]at a
 |pe h c st i off =>
  simp only[Function.comp,Sl.dead,qH]at a;by_cases e:h=t
  ·subst e;simp[Sl.gone,bz]at a
  ·simp[e,Sl.gone,bz]at a
 |pb h off =>
  simp only[Function.comp,Sl.dead,Sl.gone]at a;by_cases e:h=t
  ·simp[e,bz]at a
  ·simp[e,bz]at a
 |clo f m =>
  simp only[Function.comp,Sl.dead,Sl.gone]at a;by_cases e:t∈m
  ·simp[e,bz]at a
  ·simp[e,bz]at a
 |im k b ts off =>
  cases k with
  |own=>exact a
  |far=>exact a
  |lent h c g =>
   simp only[Function.comp,Sl.dead,atH]at a;by_cases e:h=t
   ·subst e;simp[Sl.gone,bz]at a
   ·simp[e,Sl.gone,bz]at a
 |fni f caps=>exact a
 |tup rs =>obtain⟨p,n,u,j,c,g,d,z,r,e⟩:=a;obtain⟨o,q,rfl⟩:=Ex.1 n;exact l o.2 ⟨u,j,c,g,d,z,r,e⟩
theorem Inv.quiet {cx:Cx}{D:DSt}{P:List (DT×Value)}{tm:Array Value}{w:World}(I:Inv cx D P tm w)(t:Nat):Inv cx (bB t D) P tm w:=(I.dead _ _).gone t
theorem aV {α:Type}(f:α→List Nat)(x:α)(b:Nat):∀(l:List α)(t:Nat)(y:α),l[t]?=some y →
  (f y).count b+((l.set t x).flatMap f).count b=(f x).count b+(l.flatMap f).count b
 |[],t,y,h=>by simp at h
 |a::l,0,y,h=>by simp at h;subst h;simp only[List.set_cons_zero,Ez,ED];omega
 |a::l,t+1,y,h=>by simp only[FM]at h;have c:=aV f x b l t y h;simp only[List.set_cons_succ,Ez,ED];omega
theorem db (P Q:List (DT×Value))(b:Nat):az (P++Q) b=az P b+az Q b:=by unfold az;rw[Fm,ED]
theorem bw (b:Nat):az [] b=0:=rfl
theorem fd (p:DT×Value)(P:List (DT×Value))(b:Nat):az (p::P) b=(ownR p.1).count b+az P b:=by unfold az;rw[Ez,ED]
theorem Inv.fillF {cx:Cx}{D:DSt}{P Q:List (DT×Value)}{tm:Array Value}{w:World}(I:Inv cx D (P++Q) tm w){t:Nat}{i s:DSl}{y:Value}(F:Nat→Nat)
  (j:∀b,0<F b→F b≤1∧aO D b+az (P++Q) b=0∧cx.may b∧b<w.heap.size)
  (c:D[t]?=some i) (k:∀s∈D,¬bz t s) (l:¬bz t s) (hv:VS D s y) (m:MemS w s) (n:cl cx D s)
  (o:∀b,(ownBl s).count b≤az P b+F b):Inv cx (D.set t s) Q (tm.setIfInBounds t y) w:=by
 have d:t<D.length:=by
  rcases Em t D.length with g|g
  ·exact g
  ·rw[Ek g]at c;cases c
 have a:∀b,aO (D.set t s) b+az Q b≤aO D b+az (P++Q) b+F b:=by intro b;have f:=aV ownBl s b D t i c;have q:=o b;rw[db];unfold aO;omega
 refine⟨by have:=I.size;simpa using this,fun u s' hs=>?_,fun s' hs=>?_,fun s' hs=>?_,fun p r=>I.pend p (EI.2 (.inr r)),
  fun b=>?_,fun b hb=>?_,I.frame⟩
 ·by_cases e:u=t
  ·subst e;rw[Ep d]at hs;cases hs;have:u<tm.size:=by rw[←I.size];exact d
   simp only[ET,Array.getElem?_setIfInBounds_self,this,EV,FX];exact nk l hv
  ·rw[Es (fun h=>e h.symm)]at hs;have f:=I.val u s' hs;simp only[ET]at f ⊢;rw[Gj (fun h=>e h.symm)];exact nk (k s' (Ef hs)) f
 ·rcases Fd hs with h|rfl
  ·exact I.mem s' h
  ·exact m
 ·rcases Fd hs with h|rfl
  ·exact jQ (k s' h) (I.kind s' h)
  ·exact jQ l n
 ·have f:=a b;have q:=I.once b;rcases E0 (F b)with g|g
  ·omega
  ·have:=j b g;omega
 ·have f:=a b;rcases E0 (F b)with g|g
  ·exact I.bnd b (by omega)
  ·exact(j b g).2.2
theorem Inv.fill {cx:Cx}{D:DSt}{P Q:List (DT×Value)}{tm:Array Value}{w:World}(I:Inv cx D (P++Q) tm w){t:Nat}{c s:DSl}{y:Value}
  (a:D[t]?=some c) (d:∀s∈D,¬bz t s) (e:¬bz t s) (hv:VS D s y) (f:MemS w s) (g:cl cx D s)
  (i:∀b,(ownBl s).count b≤az P b):Inv cx (D.set t s) Q (tm.setIfInBounds t y) w :=
 I.fillF (fun _=>0) (fun b h=>absurd h (FD 0)) a d e hv f g i
theorem Inv.take {cx:Cx}{D:DSt}{P:List (DT×Value)}{tm:Array Value}{w:World}(I:Inv cx D P tm w){t:Nat}{a:DSl}{cs:List (DT×Value)}
  (hs₀:D[t]?=some a) (o:∀p∈cs,p.1∈rootsO a∧p.1∈af a∧VT p.1 p.2) (O:∀p∈cs,∀h c q d z r,p.1 ≠ .s (.lent h c q) d z r)
  (y:∀b,az cs b≤(ownBl a).count b) (A:∀k b ts off,a ≠ .im k b ts off) (B:∀f caps,a ≠ .fni f caps):Inv cx (aB t D) (cs++P) tm w:=by
 have j:=I.quiet t;have hs:(bB t D)[t]?=some ((a.dead (atH t) (qH t)).gone t):=by unfold bB St.dead;rw[Et,Et,hs₀];rfl
 have e:aB t D=(bB t D).set t .any:=rfl;have C:t<(bB t D).length:=by
  rcases Em t (bB t D).length with g|g
  ·exact g
  ·rw[Ek g]at hs;cases hs
 have F:ownBl ((a.dead (atH t) (qH t)).gone t)=ownBl a:=by rw[iT,mE]
 have i:∀b,aO (aB t D) b+az (cs++P) b≤aO (bB t D) b+az P b:=by intro b;have n:=aV ownBl (Sl.any:DSl) b (bB t D) t _ hs;have L:=y b;rw[db,e];rw[F]at n;unfold aO;have V:(ownBl (Sl.any:DSl)).count b=0:=rfl;omega
 have l:a∈D:=Ef hs₀;refine⟨by have:=j.size;rw[e];simpa using this,fun u s' hs'=>?_,fun s' hs'=>?_,fun s' hs'=>?_,fun p Q=>?_,
  fun b=>E7 (i b) (j.once b),fun b hb=>j.bnd b (EU hb (i b)),I.frame⟩
 ·rw[e]at hs' ⊢;by_cases M:u=t
  ·subst M;rw[Ep C]at hs';cases hs';trivial
  ·rw[Es (fun h=>M h.symm)]at hs';exact nk (iV s' (Ef hs')) (j.val u s' hs')
 ·rw[e]at hs';rcases Fd hs' with h|rfl
  ·exact j.mem s' h
  ·exact⟨fun t m=>by simp[af]at m,fun t m=>by simp[rootsO]at m,trivial⟩
 ·rw[e]at hs' ⊢;rcases Fd hs' with h|rfl
  ·exact jQ (iV s' h) (j.kind s' h)
  ·exact fun t m=>by simp[af]at m
 ·rcases EI.1 Q with h|h
  ·obtain⟨G,n,L⟩:=o p h;have N:=I.mem a l;refine⟨L,N.1 _ n,fun y=>N.2.1 _ G y,fun H=>?_⟩;have R:aS cx D p.1:=by
    have:=I.kind a l;cases a with
    |im k b ts off=>exact absurd rfl (A k b ts off)
    |fni f caps=>exact absurd rfl (B f caps)
    |_=>exact this _ n
   have J:=O p h;generalize p.1=u at *;cases u with
   |v x=>intro x K;simp[bl]at K
   |any=>intro x K;simp[bl]at K
   |s k d z r =>
    cases k with
    |own=>simp[T.isOwn]at H
    |far=>exact R
    |lent S U q=>exact absurd rfl (J S U q d z r)
  ·exact I.pend p h
theorem vq {t:Nat}{s:DSl}:¬bz t (s.clean t):=by
 have h:s.clean t∈bB t [s]:=by simp[bB,St.dead,Sl.clean]
 exact iV _ h
theorem wY (t:Nat)(D:DSt)(s:DSl):(aB t D).set t s=(bB t D).set t s:=by unfold aB bB;rw[List.set_set]
theorem yT {D:DSt}{t:Nat}{s:DSl}{y:Value}(h:VS D s y):VS (bB t D) (s.clean t) y:=vH (vG h)
theorem xD {t:Nat}{w:World}{s:DSl}(h:MemS w s):MemS w (s.gone t):=
 ⟨by rw[nV];exact h.1,by rw[oX];exact h.2.1,qY h.2.2⟩
theorem wv {t:Nat}{w:World}{s:DSl}(h:MemS w s):MemS w (s.clean t):=xD (qX h)
theorem uK {cx:Cx}{D:DSt}{t:Nat}{s:DSl}(h:cl cx D s):cl cx (bB t D) (s.clean t):=pz (py h)
theorem oU (t:Nat)(s:DSl):ownBl (s.clean t)=ownBl s:=by unfold Sl.clean;rw[iT,mE]
theorem pJ (t:Nat)(D:DSt)(b:Nat):aO (bB t D) b=aO D b:=by
 unfold aO bB;have:((St.dead (atH t) (qH t) D).map (Sl.gone t)).flatMap ownBl=D.flatMap ownBl:=by rw[FF, ←gi (atH t) (qH t) D];exact FP (fun f=>List.flatMap f (St.dead (atH t) (qH t) D)) (funext (iT t))
 rw[this]
theorem Inv.putF {cx:Cx}{D:DSt}{P Q:List (DT×Value)}{tm:Array Value}{w:World}(I:Inv cx D (P++Q) tm w){t:Nat}{s:DSl}{y:Value}(F:Nat→Nat)
  (a:∀b,0<F b→F b≤1∧aO D b+az (P++Q) b=0∧cx.may b∧b<w.heap.size)
  (c:t<D.length) (hv:VS D s y) (d:MemS w s) (e:cl cx D s) (f:∀b,(ownBl s).count b≤az P b+F b):
  Inv cx (aE D (some t) s) Q (tm.setIfInBounds t y) w:=by
 show Inv cx ((aB t D).set t (s.clean t)) Q _ w;rw[wY];have g:t<(bB t D).length:=by simpa[bB,St.dead]using c
 exact(I.quiet t).fillF F (fun b hb=>by rw[pJ];exact a b hb) (El g) iV vq (yT hv) (wv d) (uK e) (fun b=>by rw[oU];exact f b)
theorem Inv.put {cx:Cx}{D:DSt}{P Q:List (DT×Value)}{tm:Array Value}{w:World}(I:Inv cx D (P++Q) tm w){t:Nat}{s:DSl}{y:Value}
  (a:t<D.length) (hv:VS D s y) (c:MemS w s) (d:cl cx D s) (e:∀b,(ownBl s).count b≤az P b):
  Inv cx (aE D (some t) s) Q (tm.setIfInBounds t y) w :=
 I.putF (fun _=>0) (fun b h=>absurd h (FD 0)) a hv c d e
theorem Inv.drewn {cx:Cx}{D:DSt}{P:List (DT×Value)}{tm:Array Value}{w:World}(I:Inv cx D P tm w):Inv cx D P tm w.drew where
 size:=I.size
 val:=I.val
 mem s hs:=by obtain⟨a,b,c⟩:=I.mem s hs;refine⟨fun t d=>(a t d).frame fun _ _ _=>rfl,fun t d e=>(b t d e).frame fun _ _ _=>rfl,?_⟩;cases s<;>exact c
 kind:=I.kind
 pend p f:=by obtain⟨a,b,c,g⟩:=I.pend p f;exact⟨a,b.frame fun _ _ _=>rfl,fun e=>(c e).frame fun _ _ _=>rfl,g⟩
 once:=I.once
 bnd:=I.bnd
 frame:=⟨I.frame.os,I.frame.tape,I.frame.output,I.frame.size,I.frame.same⟩
theorem wA {k:Kd}{t:DT}{y:Value}:VT (t.kd k) y↔VT t y:=by
 cases t with
 |v x=>exact .rfl
 |any=>exact .rfl
 |s k' d z r=>cases k'<;>exact .rfl
theorem kX {w:World}{k k':Kd}{d:Dec}{z:Nat}{r:List (List DT)}(h:Holds w (.s k d z r)):Holds w (.s k' d z r):=by
 cases h with
 |e=>exact .e _ _ _
 |s _ _ _ _ h hsp c e f hb hcap hz hv hh=>exact .s _ _ _ _ h hsp c e f hb hcap hz hv hh
theorem sE {w:World}{k:Kd}{t:DT}(h:Holds w t):Holds w (t.kd k):=by
 cases t with
 |v x=>exact h
 |any=>exact h
 |s k' d z r =>
  cases k' with
  |own=>exact kX h
  |_=>exact h
theorem j8 (h c:Nat)(a:Bool)(t:DT):(t.kd (.lent h c a)).isOwn=false:=by
 cases t with
 |v x=>rfl
 |any=>rfl
 |s k' d z r=>cases k'<;>rfl
theorem cD {t:DT}(h:t.isOwn=false):ownR t=[]:=by unfold ownR;rw[h];rfl
structure Tells (cx:Cx)(D:DSt)(w:World)(s:DSl)(y:Value):Prop where
 val:VS D s y
 mem:MemS w s
 kind:cl cx D s
 noown:ownBl s=[]
section
variable  {δ β : Type}
def kF (D:St δ β)(t:Nat):Option (Sl δ β):=
 match D[t]? with
 |some (.one (.s .own _ _ rows))=>some (.al t 0 [] 0 rows.length)
 |some (.one u)=>some (.one u)
 |some (.agg ts)=>some (.agg (ts.mapIdx fun c u=>u.kd (.lent t c true)))
 |some (.box _ _)=>some (.pb t 0)
 |some (.al h c st lo len)=>some (.al h c st lo len)
 |some (.pb h off)=>some (.pb h off)
 |some (.pe h c st i off)=>some (.pe h c st i off)
 |some (.im k b ts off)=>some (.im k b ts off)
 |some (.fni f caps)=>some (.fni f caps)
 |some (.clo f hs)=>some (.clo f hs)
 |_=>none
def vL:Value→Bool| .slice _ _ _=>false|x=>x.oneCell'
def qB (nil:δ):Value→Option (Sl δ β)| .slice none 0 0=>some (.one (.s .own nil 0 []))| .pointer none=>some .any|x=>if vL x then some (.one (.v x))else none
def opd (nil:δ)(D:St δ β):Operand→Option (Sl δ β)| .tmp t=>kF D t| .const x=>qB nil x| .func f=>some (.fni f [])| .global _=>none
end
def nilD:Dec:=⟨0,0,0,true,none⟩
theorem Inv.copy {cx:Cx}{D:DSt}{P:List (DT×Value)}{tm:Array Value}{w:World}(I:Inv cx D P tm w){t:Nat}{s:DSl}(h:kF D t=some s):
  Tells cx D w s (tm.getD t undef):=by
 unfold kF at h;cases e:D[t]? with
 |none=>rw[e]at h;cases h
 |some p =>
  have hv:=I.val t p e;have a:=I.mem p (Ef e);have g:=I.kind p (Ef e);rw[e]at h;cases p with
  |any=>cases h
  |tup rs=>cases h
  |one u =>
   cases u with
   |v x=>cases h;exact⟨hv,a,g,rfl⟩
   |any=>cases h;exact⟨hv,a,g,rfl⟩
   |s k d z rows =>
    cases k with
    |far=>cases h;exact⟨hv,a,g,rfl⟩
    |lent m K B=>cases h;exact⟨hv,a,g,rfl⟩
    |own =>
     cases h;refine⟨?_,⟨fun t j=>by simp[af]at j,fun t j=>by simp[rootsO]at j,trivial⟩,fun t j=>by simp[af]at j,rfl⟩;refine⟨d,z,rows.length,_,⟨.s .own d z rows,by simp[am,e,aD],rfl,.own,rows,rfl,rfl⟩,by omega,hv,?_,fun _=>Dec.addr_none (a.2.1 (.s .own d z rows) (by simp[rootsO]) rfl).sp⟩;intro hc;have n:=a.2.1 (.s .own d z rows) (by simp[rootsO]) rfl;have hs:=n.sp;cases n with
     |nil d z h q C=>omega
     |s d z rows m=>simp[Dec.addr,m,hs]
  |agg ts =>
   cases h;refine⟨?_,⟨?_,?_,trivial⟩,?_,?_⟩
   ·obtain⟨cs,F,G,H⟩:=hv;refine⟨cs,F,by simpa using G,fun i u y hi J=>?_⟩;rw[FG,Ei]at hi;obtain⟨u',hi,rfl⟩:=hi;exact wA.2 (H i u' y hi J)
   ·intro u l;simp only[af,Ff]at l;obtain⟨i,hi,rfl⟩:=l;exact sE (a.1 _ (FY hi))
   ·intro u l n;simp only[rootsO,Ff]at l;obtain⟨i,hi,rfl⟩:=l;rw[j8]at n;cases n
   ·intro u l;simp only[af,Ff]at l;obtain⟨i,hi,rfl⟩:=l;have o:=g (ts[i]) (FY hi);have hc:am D t i=some ts[i]:=by simp[am,e,aD]
    generalize ts[i]=u at *;cases u with
    |v x=>trivial
    |any=>trivial
    |s k d z r =>
     cases k with
     |own=>exact⟨_,hc,rfl,fun x A=>(by simp only[bR]at A ⊢;exact A),fun _=>⟨_,_,rfl,rfl⟩⟩
     |far=>exact o
     |lent h c B=>exact o
   ·simp only[ownBl,Ey,Ff];rintro u ⟨i,hi,rfl⟩;exact cD (j8 _ _ _ _)
  |box b ts =>cases h;refine⟨⟨b,ts,e,by rw[hv];rfl⟩,⟨fun t j=>by simp[af]at j,fun t j=>by simp[rootsO]at j,trivial⟩,fun t j=>by simp[af]at j,rfl⟩
  |al m c st lo len=>cases h;exact⟨hv,a,g,rfl⟩
  |pb m off=>cases h;exact⟨hv,a,g,rfl⟩
  |pe m c st i off=>cases h;exact⟨hv,a,g,rfl⟩
  |im k b ts off=>cases h;exact⟨hv,a,g,rfl⟩
  |fni f caps=>cases h;exact⟨hv,a,g,rfl⟩
  |clo f hs=>cases h;exact⟨hv,a,g,rfl⟩
theorem Tells.one_v {cx:Cx}{D:DSt}{w:World}(x:Value)(b:x.oneCell'=true):Tells cx D w (.one (.v x)) x :=
 ⟨⟨rfl,b⟩,⟨fun t a=>by simp[af]at a;subst a;exact .v x,(fun t a c=>by simp[rootsO]at a;subst a;cases c),trivial⟩,
  fun t a=>by simp[af]at a;subst a;trivial,rfl⟩
theorem Inv.opd {cx:Cx}{D:DSt}{P:List (DT×Value)}{a:Act}{w:World}(I:Inv cx D P a.tmps w){x:Operand}{s:DSl}(h:opd nilD D x=some s):
  Tells cx D w s (a.eval x):=by
 cases x with
 |tmp t=>exact I.copy h
 |global g=>cases h
 |func f =>simp only[Am.opd]at h;cases h;exact⟨rfl,⟨fun t b=>by simp[af]at b,fun t b=>by simp[rootsO]at b,fun p c=>by simp at c⟩,fun p c=>by simp at c,rfl⟩
 |const v =>
  simp only[Am.opd]at h;unfold qB at h;split at h
  ·cases h;exact⟨rfl,⟨fun t b=>by simp[af]at b;subst b;exact .e _ _ _,(fun t b d=>by simp[rootsO]at b;subst b;exact .nil _ _ rfl rfl rfl),trivial⟩,
    fun t b=>by simp[af]at b;subst b;trivial,by simp[ownBl,ownR,T.isOwn,bR,nilD]⟩
  ·cases h;exact⟨trivial,⟨fun t b=>by simp[af]at b,fun t b=>by simp[rootsO]at b,trivial⟩,fun t b=>by simp[af]at b,rfl⟩
  ·split at h
   ·rename_i hc;cases h;exact .one_v _ (by
     unfold vL at hc;split at hc
     ·cases hc
     ·exact hc)
   ·cases h
structure Grew (w w':World):Prop where
 os:w'.os=w.os
 tape:w'.tape=w.tape
 output:w'.output=w.output
 size:w.heap.size≤w'.heap.size
 same:∀b,b<w.heap.size→w'.heap[b]?=w.heap[b]?
theorem Grew.alloc (w:World)(o:Obj):Grew w (w.alloc o):=
 ⟨rfl,rfl,rfl,by simp,fun b hb=>by show(w.heap.push o)[b]?=_;rw[Array.getElem?_push,Eu (by omega)]⟩
theorem Grew.drew (w:World):Grew w w.drew:=⟨rfl,rfl,rfl,EQ _,fun _ _=>rfl⟩
theorem Grew.trans {a b c:World}(h:Grew a b)(k:Grew b c):Grew a c :=
 ⟨k.os.trans h.os,k.tape.trans h.tape,k.output.trans h.output,E7 h.size k.size,
  fun i hi=>(k.same i (EU hi h.size)).trans (h.same i hi)⟩
theorem Lies.grew {w w':World}(g:Grew w w'){b:Nat×Nat}{ts:List DT}(h:Lies w b ts):Lies w' b ts:=by obtain⟨c,e,f,hb,hv⟩:=h;exact⟨c,e,f,by rw[g.same _ (cQ hb)];exact hb,hv⟩
theorem Free.grew {w w':World}(g:Grew w w'){b:Nat×Nat}{n:Nat}(a:b.1<w.heap.size)(h:Free w b n):Free w' b n:=by intro c e lo hi hb;rw[g.same _ a]at hb;exact h c e lo hi hb
theorem Lies.lt {w:World}{b:Nat×Nat}{ts:List DT}(h:Lies w b ts):b.1<w.heap.size:=by obtain⟨c,e,f,hb,hv⟩:=h;exact cQ hb
theorem MemS.grew {w w':World}(g:Grew w w'){s:DSl}(h:MemS w s):MemS w' s:=by
 obtain⟨d,e,a⟩:=h;refine⟨fun t c=>(d t c).frame fun b _ hb=>g.same b hb,fun t c i=>(e t c i).frame fun b _ hb=>g.same b hb,?_⟩;cases s with
 |box b ts=>exact⟨a.1.grew g,a.2.grew g a.1.lt⟩
 |im k b ts off=>exact Lies.grew g a
 |fni f caps=>exact fun p j=>(a p j).grew g
 |_=>trivial
theorem Cx.Fr.grew {cx:Cx}{w w':World}(g:Grew w w')(h:cx.Fr w):cx.Fr w' :=
 ⟨g.os.trans h.os,g.tape.trans h.tape,g.output.trans h.output,E7 h.size g.size,
  fun b hb=>(g.same b (EU hb.1 h.size)).trans (h.same b hb)⟩
theorem Inv.grew {cx:Cx}{D:DSt}{P:List (DT×Value)}{tm:Array Value}{w w':World}(I:Inv cx D P tm w)(g:Grew w w'):Inv cx D P tm w' where
 size:=I.size
 val:=I.val
 mem s hs:=(I.mem s hs).grew g
 kind:=I.kind
 pend p a:=by obtain⟨c,d,e,f⟩:=I.pend p a;exact⟨c,d.frame fun b _ hb=>g.same b hb,fun h=>(e h).frame fun b _ hb=>g.same b hb,f⟩
 once:=I.once
 bnd b hb:=⟨(I.bnd b hb).1,EU (I.bnd b hb).2 g.size⟩
 frame:=I.frame.grew g
theorem Tells.grew {cx:Cx}{D:DSt}{w w':World}{s:DSl}{y:Value}(h:Tells cx D w s y)(g:Grew w w'):Tells cx D w' s y :=
 ⟨h.val,h.mem.grew g,h.kind,h.noown⟩
section
inductive Sh where|bool|int (k:IntKind)|str|slice (e:Nat)|struct (offs:List Nat)|ptr (e:Nat)|fn|other deriving DecidableEq
def Sh.agg:Sh→Bool| .struct _=>true|_=>false
structure TI where
 size:Nat
 bytes:Nat
 zero:List (T Unit)
 sh:Sh
def zT (n:Nat):Value→T Unit| .slice none 0 0=>.s .own () n []|x=>.v x
def AS (P:Program):Nat→TypeId→List Nat
 | 0,_=>[]
 |k+1,t =>
  match P.underlying t with
  |some (.slice e)=>[match P.info? e with|some i=>i.size|none=>0]
  |some (.struct fs)=>fs.toList.flatMap fun f=>AS P k f.type
  |_=>[0]
def b7 (P:Program)(t:TypeId)(ys:List Value):List (T Unit):=ys.mapIdx fun j y=>zT ((AS P 6 t).getD j 0) y
def mM (P:Program):TypeDesc→Sh
 | .bool=>.bool
 | .int k=>.int k
 | .string=>.str
 | .slice e=>.slice e
 | .pointer e=>.ptr e
 | .func _ _ _=>.fn
 | .struct fs=>if fs.all (fun f=>(P.info? f.type).any fun i=>i.size != 0)then .struct (fs.toList.map (·.offset))else .other
 |_=>.other
def gp (P:Program)(t:TypeId):Option TI :=
 (P.info? t).bind fun i=>(P.underlying t).bind fun d=>i.zero.bind fun z =>if z.cells.toList.all (·.oneCell')then some { size:=i.size,bytes:=i.bytes,zero:=b7 P t z.cells.toList,sh:=mM P d }else none
structure Tab where
 ts:List (Nat×TI)
 eqs:List (Nat×List (Nat×Nat)):=[]
 pls:List (Nat×List (Nat×Nat)):=[]
 io:List (Nat×Nat):=[]
 ars:List (Nat×Nat):=[]
 addr:List (Nat×List Nat):=[]
 gv:List Nat:=[]
 pw:List (Nat×List Nat):=[]
def il (P:Program)(t:TypeId):Option (List (Nat×Nat)):=
 match P.underlying t with
 |some (.struct fs)=>fs.toList.mapM (fun f=>(P.info? f.type).map fun i=>(f.offset,i.size))
 |_=>none
def wE (P:Program)(t:TypeId):Option (List (Nat×Nat)):=
 match P.underlying t with
 | some (.struct fs) => if P.stoodInHeld t = false ∧ P.eqGuardType P.depth t = false ∧ fs.all (fun f => (f.name == "_") == false) = true then some (fs.toList.map fun f => (f.offset, f.type)) else none
 |_=>none
def yW (P:Program)(t:TypeId):Option Nat :=
 match P.underlying t with
 |some (.array n e)=>match P.underlying e,P.info? e with|some (.pointer _),some i=>if i.size=1 then some n else none|_,_=>none
 |_=>none
def sD (P:Program)(f:FuncId)(offs:List Nat):Prop :=∀(b:Nat×Nat)(w:World),Calls P f #[.pointer (some ⟨b.1,b.2,none⟩)] w fun e w'=>e = .returned (.agg (offs.map fun o=>Value.pointer (some ⟨b.1,b.2+o,none⟩)).toArray)∧Grew w w'
structure aK (P:Program)(tab:Tab):Prop where
 ts:∀p∈tab.ts,gp P p.1=some p.2
 eqs:∀p∈tab.eqs,wE P p.1=some p.2
 pls:∀p∈tab.pls,il P p.1=some p.2
 mixed:P.follows .mixedOrders=true
 ars:∀p∈tab.ars,yW P p.1=some p.2
 addr:∀p∈tab.addr,sD P p.1 p.2
def Tab.ti (tab:Tab)(t:Nat):Option TI:=tab.ts.lookup t
def Tab.pl (tab:Tab)(t:Nat):Option (List (Nat×Nat)):=tab.pls.lookup t
def Tab.eq (tab:Tab)(t:Nat):Option (List (Nat×Nat)):=tab.eqs.lookup t
theorem dZ {α:Type}:∀{l:List (Nat×α)}{t:Nat}{x:α},l.lookup t=some x→(t,x)∈l
 |[],_,_,h=>by simp at h
 |(u,y)::l,t,x,h=>by
  rw[List.lookup_cons]at h;split at h
  ·rename_i e;cases h;have:t=u:=by simpa using e
   subst this;exact List.mem_cons_self
  ·exact FS _ (dZ h)
variable  {P : Program}{tab : Tab}
theorem Tab.ok (h:aK P tab){t:Nat}{ti:TI}(e:tab.ti t=some ti):gp P t=some ti:=h.ts _ (dZ e)
theorem Tab.okPl (h:aK P tab){t:Nat}{l:List (Nat×Nat)}(e:tab.pl t=some l):il P t=some l:=h.pls _ (dZ e)
theorem Tab.okEq (h:aK P tab){t:Nat}{l:List (Nat×Nat)}(e:tab.eq t=some l):wE P t=some l:=h.eqs _ (dZ e)
section
variable  {t : Nat}{ti : TI}
theorem cW (h:gp P t=some ti):∃i d z,P.info? t=some i∧P.underlying t=some d∧i.zero=some z∧i.size=ti.size∧i.bytes=ti.bytes∧ti.zero=b7 P t z.cells.toList∧ti.sh=mM P d∧z.cells.toList.all (·.oneCell')=true:=by
 unfold gp at h;cases hi:P.info? t with
 |none=>simp[hi]at h
 |some i =>
  cases hd:P.underlying t with
  |none=>simp[hi,hd]at h
  |some d =>
   cases hz:i.zero with
   |none=>simp[hi,hd,hz]at h
   |some z =>
    simp only[hi,hd,hz,Eg]at h;split at h
    ·rename_i a;cases h;exact⟨i,d,z,rfl,rfl,hz,rfl,rfl,rfl,rfl,a⟩
    ·cases h
theorem fU (h:gp P t=some ti)(w:World):(sizeOf t).run P w = .ok ti.size w:=by obtain⟨i,d,z,a,c,e,b,f,g,j,k⟩:=cW h;simp[sizeOf,typeInfo,a,b]
theorem cU (h:gp P t=some ti){e:Nat}(hs:ti.sh = .slice e):P.underlying t=some (.slice e):=by obtain⟨i,d,z,c,b,f,g,j,k,a,l⟩:=cW h;rw[b];rw[hs]at a;cases d<;>simp only[mM]at a<;>first|(cases a;done)|(split at a<;>cases a;done)|(cases a;rfl)
theorem wn (h:gp P t=some ti)(hs:ti.sh = .bool):P.underlying t=some .bool:=by obtain⟨i,d,z,c,b,e,f,g,j,a,k⟩:=cW h;rw[b];rw[hs]at a;cases d<;>simp only[mM]at a<;>first|(cases a;done)|(split at a<;>cases a;done)|rfl
theorem mb (h:gp P t=some ti)(hs:ti.sh = .str):P.underlying t=some .string:=by obtain⟨i,d,z,c,b,e,f,g,j,a,k⟩:=cW h;rw[b];rw[hs]at a;cases d<;>simp only[mM]at a<;>first|(cases a;done)|(split at a<;>cases a;done)|rfl
theorem qt (h:gp P t=some ti){k:IntKind}(hs:ti.sh = .int k):P.underlying t=some (.int k):=by obtain⟨i,d,z,c,b,e,f,g,j,a,l⟩:=cW h;rw[b];rw[hs]at a;cases d<;>simp only[mM]at a<;>first|(cases a;done)|(split at a<;>cases a;done)|(cases a;rfl)
theorem yO (h:gp P t=some ti){offs:List Nat}(hs:ti.sh = .struct offs):
  ∃fs,P.underlying t=some (.struct fs)∧offs=fs.toList.map (·.offset)∧∀f∈fs,∃i,P.info? f.type=some i∧i.size≠0:=by
 obtain⟨i,d,z,e,c,g,j,k,l,b,m⟩:=cW h;rw[c];rw[hs]at b;cases d<;>simp only[mM]at b<;>first|(cases b;done)|skip
 split at b
 ·rename_i fs a;cases b;refine⟨fs,rfl,rfl,fun f hf=>?_⟩;rw[Gg]at a;have:=a f hf;cases hi:P.info? f.type with
  |none=>simp[hi]at this
  |some i=>simp[hi]at this;exact⟨i,rfl,this⟩
 ·cases b
theorem uH (h:gp P t=some ti)(a:ti.sh ≠ .other)(w:World):(isAgg t).run P w = .ok ti.sh.agg w:=by obtain⟨i,d,z,e,b,f,g,j,k,c,l⟩:=cW h;rw[c]at a ⊢;unfold isAgg;cases d<;>simp[run_underlying b,mM,Sh.agg]<;>simp[mM]at a;split<;>simp_all
theorem mc (h:gp P t=some ti)(w:World):∃z,(zeroValue t).run P w = .ok z w∧ti.zero=b7 P t z.cells.toList∧z.cells.toList.all (·.oneCell')=true:=by obtain⟨i,d,z,a,f,b,g,j,c,k,e⟩:=cW h;exact⟨z,by simp[zeroValue,typeInfo,a,b],c,e⟩
end
end
section
def xd (op:BinOp)(k:IntKind)(a b:Int):Option Value :=
 match op with
 | .add=>some (.int k (k.wrap (a+b)))
 | .sub=>some (.int k (k.wrap (a-b)))
 | .mul=>some (.int k (k.wrap (a*b)))
 | .quo=>if b=0 then none else some (.int k (k.wrap (a.tdiv b)))
 | .rem=>if b=0 then none else some (.int k (a.tmod b))
 | .and=>some (.int k (k.wrap (BitVec.ofInt k.bits a &&& BitVec.ofInt k.bits b).toNat))
 | .or=>some (.int k (k.wrap (BitVec.ofInt k.bits a |||BitVec.ofInt k.bits b).toNat))
 | .xor=>some (.int k (k.wrap (BitVec.ofInt k.bits a ^^^ BitVec.ofInt k.bits b).toNat))
 | .eql=>some (.bool (a==b))
 | .neq=>some (.bool (a != b))
 | .lss=>some (.bool (decide (a<b)))
 | .leq=>some (.bool (decide (a≤b)))
 | .gtr=>some (.bool (decide (a>b)))
 | .geq=>some (.bool (decide (a≥b)))
 |_=>none
def shV (op:BinOp)(k:IntKind)(a b:Int):Option Value :=
 if b<0 then none else
 match op with
 | .shl=>some (.int k (k.wrap (a*2 ^ (min b.toNat k.bits))))
 | .shr=>some (.int k (a.fdiv (2 ^ (min b.toNat k.bits))))
 |_=>none
def kM:Nat:=4611686018427387904
def xx (op:BinOp)(a b:GM):Option Value :=
 match op with
 | .add=>if a.size+b.size≤kM then some (.string (a++b))else none
 | .eql=>some (.bool (a.toList==b.toList))
 | .neq=>some (.bool (!(a.toList==b.toList)))
 | .lss=>some (.bool (Op.bytesLess a.toList b.toList))
 | .leq=>some (.bool (Op.bytesLess a.toList b.toList ||a.toList==b.toList))
 | .gtr=>some (.bool (!(Op.bytesLess a.toList b.toList ||a.toList==b.toList)))
 | .geq=>some (.bool (!Op.bytesLess a.toList b.toList))
 |_=>none
def ex (tab:Tab)(op:BinOp)(t:Nat)(x y:Value):Option Value :=
 match x,y with
 | .int k a,.int k' b =>
  match op with
  | .shl=>shV .shl k a b
  | .shr=>shV .shr k a b
  |op=>if k=k' then xd op k a b else none
 | .string a,.string b=>xx op a b
 | .bool a,.bool b =>
  match tab.ti t with
  |some ti=>if ti.sh = .bool then(match op with| .eql=>some (.bool (a==b))| .neq=>some (.bool (!(a==b)))|_=>none)else none
  |none=>none
 |_,_=>none
variable  {P : Program}{tab : Tab}
theorem zx {op:BinOp}{k:IntKind}{a b:Int}{z:Value}(t:TypeId)(w:World)(h:xd op k a b=some z):
  (binOp op t (.int k a) (.int k b)).run P w = .ok z w:=by
 unfold xd at h;cases op<;>simp only[EY,reduceCtorEq]at h<;>try (subst h;simp[binOp,Op.intArith,Op.intBits,Op.intCmp];done)
 ·split at h
  ·cases h
  ·rename_i hb;cases h;simp[binOp,Op.intDiv,hb]
 ·split at h
  ·cases h
  ·rename_i hb;cases h;simp[binOp,Op.intDiv,hb]
theorem wi {op:BinOp}(c:op = .shl∨op = .shr){k k':IntKind}{a b:Int}{z:Value}(t:TypeId)(w:World)(h:shV op k a b=some z):
  (binOp op t (.int k a) (.int k' b)).run P w = .ok z w:=by
 unfold shV at h;split at h
 ·cases h
 ·rename_i hb;rcases c with rfl|rfl<;>simp only[EY]at h<;>subst h<;>simp[binOp,Op.shift,hb]
theorem zG {op:BinOp}{a b:GM}{z:Value}(t:TypeId)(w:World)(h:xx op a b=some z):
  (binOp op t (.string a) (.string b)).run P w = .ok z w:=by
 unfold xx at h;cases op<;>simp only[EY,reduceCtorEq]at h<;>try (subst h;simp[binOp,Op.stringOp];done)
 split at h
 ·rename_i hs;cases h;simp[binOp,Op.stringOp];unfold kM at hs;omega
 ·cases h
theorem yY (ok:aK P tab){op:BinOp}{t:TypeId}{x y z:Value}(d e:Operand)(w:World)(h:ex tab op t x y=some z):
  (do eqGuard op t d e x y;binOp op t x y:Sem Value).run P w = .ok z w:=by
 unfold ex at h;split at h
 ·rename_i k a k' b;rw[eqGuard_at_int];split at h
  ·simpa using wi (.inl rfl) t w h
  ·simpa using wi (.inr rfl) t w h
  ·split at h
   ·rename_i f;subst f;simpa using zx t w h
   ·cases h
 ·rw[eqGuard_at_string];simpa using zG t w h
 ·rename_i a b;rw[eqGuard_at_bool];split at h
  ·rename_i ti c;split at h
   ·rename_i hs;have hb:=wn (Tab.ok ok c) hs;split at h
    ·cases h;simp[run_eql_bool w t a b hb]
    ·cases h;simp[run_neq_bool w t a b hb]
    ·cases h
   ·cases h
  ·cases h
 ·cases h
theorem yX {op:BinOp}{t:TypeId}{x y z:Value}(h:ex tab op t x y=some z):z.oneCell'=true:=by
 unfold ex xd shV xx at h;repeat' split at h
 all_goals first|(cases h;rfl)|(cases h;done)
def su:Sh→Value→Value→Option Bool| .bool,.bool a,.bool b=>some (a==b)| .int k,.int c a,.int d b=>if c=k∧d=k then some (a==b)else none| .str,.string a,.string b=>some (a.toList==b.toList)|_,_,_=>none
def eK {δ:Type}(tab:Tab)(us c:List (T δ)):List (Nat×Nat)→Option Bool
 |[]=>some true
 |(off,d)::r =>
  match tab.ti d,us[off]?,c[off]? with
  |some ti,some (.v a),some (.v b)=>if ti.size=1∧ti.sh.agg=false then(su ti.sh a b).bind fun q=>(eK tab us c r).map fun s=>q&&s else none
  |_,_,_=>none
def eqS {δ:Type}(tab:Tab)(op:BinOp)(t:Nat)(us a:List (T δ)):Option Value :=
 match op with
 | .eql=>((tab.eq t).bind (eK tab us a)).map fun b=>.bool b
 | .neq=>((tab.eq t).bind (eK tab us a)).map fun b=>.bool (!b)
 |_=>none
theorem xN {t:Nat}{ti:TI}(h:gp P t=some ti){a b:Value}{q:Bool}(e:su ti.sh a b=some q)(d:Nat)(w:World):(Op.equalIn (d+1) t a b).run P w = .ok q w:=by
 unfold su at e;split at e
 ·rename_i hs;cases e;exact run_equalIn_bool' w d t _ _ (wn h hs)
 ·rename_i k f a g b hs;split at e
  ·rename_i c;obtain⟨rfl,rfl⟩:=c;cases e;exact run_equalIn_int w d t _ _ _ _ (qt h hs)
  ·cases e
 ·rename_i hs;cases e;exact run_equalIn_string w d t _ _ (mb h hs)
 ·cases e
theorem oI (ok:aK P tab){us l:List DT}{xs ys:Array Value}(C:∀(i:Nat)(u:DT)(y:Value),us[i]?=some u→xs[i]?=some y→VT u y)(D:∀(i:Nat)(u:DT)(y:Value),l[i]?=some u→ys[i]?=some y→VT u y)
  (F : us.length = xs.size) (G : l.length = ys.size) (d : Nat) (w : World) : ∀ (fs : List Field) {b : Bool}, (∀ f ∈ fs, (f.name == "_") = false) → eK tab us l (fs.map fun f => (f.offset, f.type)) = some b →
   (Op.eqFields (d+1) xs ys fs).run P w = .ok b w
 |[],b,m,e=>by cases e;simp[Op.eqFields]
 |f::fs,b,m,e=>by
  simp only[EB,eK]at e;split at e
  case h_2=>cases e
  rename_i ti a c n o hv;split at e
  case isFalse=>cases e
  rename_i j;simp only[Eh,Ei]at e;obtain⟨q,p,s,H,rfl⟩:=e;have k:=Tab.ok ok n;have r:xs[f.offset]?=some a:=by
   have t:f.offset<us.length:=by
    rcases Em f.offset us.length with g|g
    ·exact g
    ·rw[Ek g]at o;cases o
   have:=C _ _ _ o (EO (by omega));rw[EO (by omega),this.1]
  have v:ys[f.offset]?=some c:=by
   have t:f.offset<l.length:=by
    rcases Em f.offset l.length with g|g
    ·exact g
    ·rw[Ek g]at hv;cases hv
   have:=D _ _ _ hv (EO (by omega));rw[EO (by omega),this.1]
  have hs:=fU k w;have I:ti.sh ≠ .other:=by intro h;rw[h]at p;simp[su]at p
  have x:=uH k I w;rw[j.2]at x;have z:(part f.type xs f.offset).run P w = .ok a w:=by simp[part,hs,x,r,j.1]
  have A:(part f.type ys f.offset).run P w = .ok c w:=by simp[part,hs,x,v,j.1]
  have B : f.name ≠ "_" := by simpa using m f (by simp)
  have J:=oI ok C D F G d w fs (fun g K=>m g (by simp[K])) H;simp only[Op.eqFields,Ej B,Sem.run_bind,z,A,xN k p d w,Result.andThen_ok];cases q
  ·simp
  ·simpa using J
end
theorem Holds.getN {w:World}:∀(st:List (Nat×Nat)){t n:DT},Holds w t→getN t st=some n→Holds w n
 |[],t,n,h,a=>by cases a;exact h
 |(i,c)::st,t,n,h,a=>by
  cases t with
  |v x=>simp[Am.getN]at a
  |any=>simp[Am.getN]at a
  |s k d z rows =>
   simp only[Am.getN,Eh]at a;obtain⟨u,⟨row,hi,b⟩,a⟩:=a;cases h with
   |e=>simp at hi
   |s _ _ _ _ h hsp g j f hb hcap hz hv hh=>exact Holds.getN st (hh i row c u hi b) a
theorem OwnT.getN {w:World}:∀(st:List (Nat×Nat)){t n:DT},OwnT w t→getN t st=some n→OwnT w n
 |[],t,n,h,a=>by cases a;exact h
 |(i,c)::st,t,n,h,a=>by
  cases t with
  |v x=>simp[Am.getN]at a
  |any=>simp[Am.getN]at a
  |s k d z rows =>
   simp only[Am.getN,Eh]at a;obtain⟨u,⟨row,hi,b⟩,a⟩:=a;cases h with
   |nil=>simp at hi
   |s _ _ _ h hsp f g lo e hb hcap hroom hf hh=>exact OwnT.getN st (hh i row c u hi b) a
theorem lM:∀(st:List (Nat×Nat)){t n:DT},getN t st=some n→∀b∈bl n,b∈bl t
 |[],t,n,e=>by cases e;exact fun b hb=>hb
 |(i,c)::st,t,n,e=>by
  cases t with
  |v x=>simp[getN]at e
  |any=>simp[getN]at e
  |s k d z rows =>simp only[getN,Eh]at e;obtain⟨u,⟨row,hi,a⟩,e⟩:=e;exact fun b hb=>fo hi a (lM st e b hb)
theorem kv {w:World}{b:Nat}{c:Array Value}{e:TypeId}{f:Nat×Nat}(h:w.heap[b]?=some (.cells c e f))(o:Nat):w.cell? ⟨b,o,none⟩=c[o]?:=by simp[World.cell?,h]
section
variable  {δ β : Type}
def boxRange (D:St δ β)(h o n:Nat):Option (List (T δ)):=
 match D[h]? with
 |some (.box _ ts)=>if o+n≤ts.length then some ((ts.drop o).take n)else none
 |_=>none
def rowRange (D:St δ β)(h c:Nat)(st:List (Nat×Nat))(i o n:Nat):Option (List (T δ)):=
 match am D h c with
 |some t=>if t.isOwn then
   match getN t st with
   |some (.s _ _ _ rows)=>(rows[i]?).bind fun row=>if o+n≤row.length then some ((row.drop o).take n)else none
   |_=>none
  else none
 |none=>none
end
theorem be {D:DSt}{h c:Nat}{t:DT}(e:am D h c=some t):∃s,D[h]?=some s∧s∈D∧t∈af s∧t∈rootsO s∧(t.isOwn=true→∀b∈bl t,b∈ownBl s):=by
 unfold am at e;simp only[Eh]at e;obtain⟨cs,⟨s,hs,hc⟩,ht⟩:=e;refine⟨s,hs,Ef hs,?_⟩;have a:=Ef ht;cases s with
 |one u=>cases hc;exact⟨a,a,fun d b hb=>by simp at a;subst a;simp[ownBl,ownR,d,hb]⟩
 |agg ts=>cases hc;exact⟨a,a,fun d b hb=>by simp only[ownBl,Eq];exact⟨t,a,by simp[ownR,d,hb]⟩⟩
 |box f ts=>cases hc;exact⟨a,a,fun d b hb=>by simp only[ownBl,ER,Eq];exact .inr ⟨t,a,by simp[ownR,d,hb]⟩⟩
 |_=>cases hc
structure Cells (w:World)(b o:Nat)(cs:List DT):Prop where
 lies:∃c e f,w.heap[b]?=some (.cells c e f)∧∀(j:Nat)(t:DT),cs[j]?=some t→∃y,c[o+j]?=some y∧VT t y
 holds:∀t∈cs,Holds w t
theorem Inv.boxRange {cx:Cx}{D:DSt}{P:List (DT×Value)}{tm:Array Value}{w:World}(I:Inv cx D P tm w){h o n:Nat}{cs:List DT}(e:boxRange D h o n=some cs):
  ∃b ts,D[h]?=some (.box b ts)∧cs.length=n∧Cells w b.1 (b.2+o) cs∧(∀j,j<n→cs[j]?=ts[o+j]?)∧o+n≤ts.length:=by
 unfold Am.boxRange at e;split at e
 ·rename_i b ts hd;split at e
  ·rename_i l;cases e;have i:=I.mem _ (Ef hd);obtain⟨c,e,f,hb,hv⟩:=i.2.2.1;have k:∀j,j<n→((ts.drop o).take n)[j]?=ts[o+j]?:=by intro j a;rw[Fe,Ej a,E4]
   refine⟨b,ts,hd,by simp;omega,⟨⟨c,e,f,hb,fun j t a=>?_⟩,fun t m=>i.1 t ?_⟩,k,l⟩
   ·have d:j<n:=by
     rcases Em j n with g|g
     ·exact g
     ·rw[Fe,Eu (by omega)]at a;cases a
    rw[k j d]at a;have:=hv _ t a;rw[←Fp]at this;exact this
   ·exact Fi (Fz m)
  ·cases e
 ·cases e
theorem Inv.rowRange {cx:Cx}{D:DSt}{P:List (DT×Value)}{tm:Array Value}{w:World}(I:Inv cx D P tm w){h c:Nat}{st:List (Nat×Nat)}{i o n:Nat}{cs:List DT}
  (e:rowRange D h c st i o n=some cs):
  ∃t k d z rows row,am D h c=some t∧t.isOwn=true∧Holds w t∧OwnT w t∧getN t st=some (.s k d z rows)∧rows[i]?=some row∧cs.length=n∧o+n≤row.length ∧
   Cells w d.b (d.o+i*z+o) cs∧(∀j,j<n→cs[j]?=row[o+j]?):=by
 unfold Am.rowRange at e;split at e
 ·rename_i t v;split at e
  ·rename_i x;split at e
   ·rename_i k d z rows y;simp only[Eh]at e;obtain⟨row,hi,e⟩:=e;split at e
    ·rename_i C;cases e;obtain⟨s,hs,l,A,m,_⟩:=be v;have p:=I.mem s l;have hh:=Holds.getN st (p.1 t A) y;have B:∀j,j<n→((row.drop o).take n)[j]?=row[o+j]?:=by intro j a;rw[Fe,Ej a,E4]
     refine⟨t,k,d,z,rows,row,v,x,p.1 t A,p.2.1 t m x,y,hi,by simp;omega,C,?_,B⟩;cases hh with
     |e=>simp at hi
     |s _ _ _ _ h hsp F G f hb hcap hz hv hh =>
      refine⟨⟨F,G,f,hb,fun j u a=>?_⟩,fun u H=>?_⟩
      ·have q:j<n:=by
        rcases Em j n with g|g
        ·exact g
        ·rw[Fe,Eu (by omega)]at a;cases a
       rw[B j q]at a;have:=hv i row _ u hi a;rw[←Fp]at this;exact this
      ·have r:=Fi (Fz H);obtain⟨j,a⟩:=En r;exact hh i row j u hi a
    ·cases e
   ·cases e
  ·cases e
 ·cases e
theorem Cells.load {P:Program}{t:TypeId}{ti:TI}(h:gp P t=some ti)(q:ti.sh ≠ .other){w:World}{b o:Nat}{cs:List DT}(C:Cells w b o cs)(r:cs.length=ti.size)
  (m:ti.sh.agg=false→cs.length=1):
  ∃y,(Instr.loadAt t (.pointer (some ⟨b,o,none⟩))).run P w = .ok y w ∧
   (if ti.sh.agg then ∃ys:Array Value,y = .agg ys∧VCells cs ys.toList else ∃u,cs=[u]∧VT u y):=by
 obtain⟨c,e,f,hb,hv⟩:=C.lies;by_cases n:ti.sh.agg=true
 ·have hc:∀j,j<cs.length→∃y,c[o+j]?=some y∧∀u,cs[j]?=some u→VT u y:=by intro j d;obtain⟨y,m,s⟩:=hv j cs[j] (El d);exact⟨y,m,fun u k=>by rw[El d]at k;cases k;exact s⟩
  let f':Nat→Value:=fun j=>(c[o+j]?).getD undef
  have hf:∀j,j<ti.size→w.cell? (Addr.add ⟨b,o,none⟩ j)=some (f' j):=by
   intro j d;obtain⟨y,a,_⟩:=hc j (by omega);have:Addr.add ⟨b,o,none⟩ j=⟨b,o+j,none⟩:=by unfold Addr.add;split<;>simp_all
   rw[this,kv hb];simp[f',a]
  refine⟨.agg ((List.range ti.size).map f').toArray,?_,?_⟩
  rotate_left
  ·rw[Ej n];refine⟨_,rfl,by simpa using r,fun j u y d a=>?_⟩;simp only[Et,Ei]at a;obtain⟨x,l,rfl⟩:=a;have p:j<cs.length:=by
    rcases Em j cs.length with g|g
    ·exact g
    ·rw[Ek g]at d;cases d
   rw[Fn (by omega)]at l;cases l;obtain⟨y,a,k⟩:=hc j p;simp only[f',a,FX];exact k u d
  ·have:=run_loadCells (P:=P) w ⟨b,o,none⟩ ti.size f' hf;simp[Instr.loadAt,loadVar,Instr.sureAddr,uH h q,n,fU h,this]
 ·have i:ti.sh.agg=false:=by simpa using n
  have v:=m i;obtain⟨u,rfl⟩:∃u,cs=[u]:=List.length_eq_one_iff.1 v;obtain⟨y,a,k⟩:=hv 0 u rfl;refine⟨y,?_,?_⟩
  ·have:w.cell? ⟨b,o,none⟩=some y:=by rw[kv hb];simpa using a
   simp[Instr.loadAt,loadVar,Instr.sureAddr,uH h q,i,run_load,this]
  ·rw[Eu (by simp[i])];exact⟨u,rfl,k⟩
section
section
variable  {δ β : Type}
def en (D:St δ β)(ti:TI):Sl δ β→Option (Sl δ β)
 | .pb h o=>(boxRange D h o ti.size).bind fun cs =>
  if ti.sh.agg then some (.agg (cs.mapIdx fun j u=>u.kd (.lent h (o+j) true)))else
  match cs with
  |[.s .own _ _ rows]=>some (.al h o [] 0 rows.length)
  |[u]=>some (.one u)
  |_=>none
 | .pe h c st i o=>(rowRange D h c st i o ti.size).bind fun cs =>
  if ti.sh.agg then some (.agg (cs.map (T.view (.lent h c false))))else
  match cs with
  |[.s .own _ _ rows]=>some (.al h c (st++[(i,o)]) 0 rows.length)
  |[u]=>some (.one (u.view (.lent h c false)))
  |_=>none
 | .im k _ ts o =>
  if o+ti.size≤ts.length then
   if ti.sh.agg then some (.agg (((ts.drop o).take ti.size).map (T.view k.unr)))else
   match(ts.drop o).take ti.size with
   |[u]=>some (.one (u.view k.unr))
   |_=>none
  else none
 |_=>none
end
theorem kq {k:Kd}{t:DT}{y:Value}:VT (t.view k) y↔VT t y:=by cases t<;>exact .rfl
theorem gr {w:World}{k:Kd}{t:DT}(h:Holds w t):Holds w (t.view k):=by
 cases t with
 |v x=>exact h
 |any=>exact h
 |s k' d z r=>exact kX h
theorem zV (k:Kd)(t:DT):bl (t.view k)=bl t:=by
 cases t with
 |v x=>rfl
 |any=>rfl
 |s k' d z r=>simp only[T.view,bR]
theorem kk {k:Kd}(a:k ≠ .own)(t:DT):(t.view k).isOwn=false:=by
 cases t with
 |v x=>rfl
 |any=>rfl
 |s k' d z r=>cases k<;>simp_all[T.view,T.isOwn]
theorem qw {cx:Cx}{D:DSt}{t:DT}(h:∀x∈bl t,cx.far x):aS cx D (t.view .far):=by
 cases t with
 |v x=>trivial
 |any=>trivial
 |s k' d z r=>exact fun x a=>h x (by simp only[bR]at a ⊢;exact a)
theorem kZ {cx:Cx}{D:DSt}{b c:Nat}{a t:DT}(hc:am D b c=some a)(f:a.isOwn=true)(h:∀x∈bl t,x∈bl a):aS cx D (t.view (.lent b c false)):=by
 cases t with
 |v x=>trivial
 |any=>trivial
 |s k' d z r=>exact⟨a,hc,f,fun x e=>h x (by simp only[bR]at e ⊢;exact e),fun h=>by cases h⟩
theorem uJ {cx:Cx}{D:DSt}{k:Kd}{b:Nat}{ts:List DT}(h:iE cx D k b ts){t:DT}(a:t∈ts):aS cx D (t.view k.unr):=by
 cases k with
 |own=>exact h.elim
 |far=>exact qw (h.2 t a)
 |lent g c i =>obtain⟨j,d,e,l,f⟩:=h;exact kZ d e (f t a)
theorem ml {ts:List DT}{cs:List Value}(f:Nat→DT→DT)(hf:∀i t y,VT t y→VT (f i t) y)(h:VCells ts cs):VCells (ts.mapIdx f) cs:=by refine⟨by simpa using h.1,fun i t y hi a=>?_⟩;rw[FG,Ei]at hi;obtain⟨t',hi,rfl⟩:=hi;exact hf _ _ _ (h.2 i t' y hi a)
theorem nP {α γ:Type}(f:α→γ)(l:List α):l.mapIdx (fun _ x=>f x)=l.map f:=by apply Ft;intro i;simp
theorem Tells.agg {cx:Cx}{D:DSt}{w:World}{ts:List DT}{ys:Array Value}(hv:VCells ts ys.toList)(hh:∀t∈ts,Holds w t)(d:∀t∈ts,aS cx D t)(b:∀t∈ts,t.isOwn=false):
  Tells cx D w (.agg ts) (.agg ys):=
 ⟨⟨ys,rfl,hv⟩,⟨hh,(fun t a c=>by rw[b t a]at c;cases c),trivial⟩,d,by simp only[ownBl,Ey];exact fun t a=>cD (b t a)⟩
theorem Tells.one {cx:Cx}{D:DSt}{w:World}{t:DT}{y:Value}(hv:VT t y)(hh:Holds w t)(d:aS cx D t)(b:t.isOwn=false):Tells cx D w (.one t) y :=
 ⟨hv,⟨fun u a=>by simp[af]at a;subst a;exact hh,(fun u a c=>by simp[rootsO]at a;subst a;rw[b]at c;cases c),trivial⟩,
  fun u a=>by simp[af]at a;subst a;exact d,cD b⟩
theorem ro:∀(st:List (Nat×Nat)){t:DT}{k:Kd}{d:Dec}{z:Nat}{rows:List (List DT)}{i c:Nat}{row:List DT}{u:DT},
  getN t st=some (.s k d z rows)→rows[i]?=some row→row[c]?=some u→getN t (st++[(i,c)])=some u
 |[],t,k,d,z,rows,i,c,row,u,h,hi,a=>by cases h;simp[getN,hi,a]
 |(e,f)::st,t,k,d,z,rows,i,c,row,u,h,hi,a=>by
  cases t with
  |v x=>simp[getN]at h
  |any=>simp[getN]at h
  |s k' g j b =>simp only[getN,List.cons_append,Eh]at h ⊢;obtain⟨v,hv,h⟩:=h;exact⟨v,hv,ro st h hi a⟩
variable  {P : Program}{tab : Tab}
theorem Tells.load {cx:Cx}{D:DSt}{Pd:List (DT×Value)}{tm:Array Value}{w:World}(I:Inv cx D Pd tm w){t:TypeId}{ti:TI}(h:gp P t=some ti)(J:ti.sh ≠ .other)
  {p s:DSl} {yp:Value} (O:Tells cx D w p yp) (e:en D ti p=some s):∃y,(Instr.loadAt t yp).run P w = .ok y w∧Tells cx D w s y:=by
 unfold en at e;split at e
 ·rename_i K o;obtain⟨b,ts,hb,M⟩:=O.val;simp only[Eh]at e;obtain⟨cs,hr,e⟩:=e;obtain⟨b',ts',S,a,A,R,U⟩:=I.boxRange hr;rw[hb]at S;cases S;have l:∀(j:Nat)(u:DT),cs[j]?=some u→aS cx D (u.kd (.lent K (o+j) true)):=by
   intro j u hj;have B:j<ti.size:=by
    rcases Em j cs.length with g|g
    ·omega
    ·rw[Ek g]at hj;cases hj
   rw[R j B]at hj;have hk:=I.kind _ (Ef hb);have hc:am D K (o+j)=some u:=by simp[am,hb,aD,hj]
   have V:aS cx D u:=hk u (Ef hj);cases u with
   |v x=>trivial
   |any=>trivial
   |s k d z r =>
    cases k with
    |own=>exact⟨_,hc,rfl,fun x hx=>(by simp only[bR]at hx ⊢;exact hx),fun _=>⟨_,_,rfl,rfl⟩⟩
    |far=>exact V
    |lent h c fl=>exact V
  split at e
  ·rename_i F;cases e;obtain⟨y,G,n⟩:=Cells.load h J A a (fun hf=>by rw[F]at hf;cases hf);rw[Ej F]at n;obtain⟨ys,rfl,n⟩:=n;refine⟨_,by rw[M];exact G,.agg (ml _ (fun _ _ _=>wA.2) n) ?_ ?_ ?_⟩
   ·intro t m;simp only[Ff]at m;obtain⟨i,hi,rfl⟩:=m;exact sE (A.holds _ (FY hi))
   ·intro t m;simp only[Ff]at m;obtain⟨i,hi,rfl⟩:=m;exact l i _ (El hi)
   ·intro t m;simp only[Ff]at m;obtain⟨i,hi,rfl⟩:=m;exact j8 _ _ _ _
  ·rename_i F;have Q:cs.length=1:=by split at e<;>first|rfl|cases e
   obtain⟨y,G,n⟩:=Cells.load h J A a (fun _=>Q);rw[Eu F]at n;obtain⟨u,rfl,n⟩:=n;refine⟨y,by rw[M];exact G,?_⟩;have hu:ts[o]?=some u:=by have:=R 0 (by simp at a;omega);simpa using this.symm
   have hm:=I.mem _ (Ef hb);split at e
   ·rename_i d z rows q;cases q;cases e;refine⟨⟨d,z,rows.length,_,⟨.s .own d z rows,by simp[am,hb,aD,hu],rfl,.own,rows,rfl,rfl⟩,by omega,n,?_,fun _=>Dec.addr_none (hm.2.1 (.s .own d z rows) (Ef hu) rfl).sp⟩,
     ⟨fun t m=>by simp[af]at m,fun t m=>by simp[rootsO]at m,trivial⟩,fun t m=>by simp[af]at m,rfl⟩
    intro hc;have J:=hm.2.1 (.s .own d z rows) (Ef hu) rfl;have hs:=J.sp;cases J with
    |nil d z h W G4=>omega
    |s d z rows K=>simp[Dec.addr,K,hs]
   ·rename_i X q;cases q;cases e;have G5:u.isOwn=false:=by
     cases u with
     |v x=>rfl
     |any=>rfl
     |s k d z r =>
      cases k with
      |own=>exact absurd rfl (X d z r)
      |_=>rfl
    exact .one n (A.holds _ (by simp)) (I.kind _ (Ef hb) u (Ef hu)) G5
   ·cases e
 ·rename_i K c st i o;obtain⟨d',z',n',hn,H0,M⟩:=O.val;simp only[Eh]at e;obtain⟨cs,hr,e⟩:=e;obtain⟨t₀,k,d,z,rows,row,hc,Y,H1,G6,L,H,a,U,A,R⟩:=I.rowRange hr;have G7:d=d'∧z=z':=by obtain⟨t1,G,n,k1,C,h3,h4⟩:=hn;rw[hc]at G;cases G;rw[L]at h3;cases h3;exact⟨rfl,rfl⟩
  obtain⟨rfl,rfl⟩:=G7;have G8:∀(j:Nat)(u:DT),cs[j]?=some u→∀x∈bl u,x∈bl t₀:=by
   intro j u hj x hx;have B:j<ti.size:=by
    rcases Em j cs.length with g|g
    ·omega
    ·rw[Ek g]at hj;cases hj
   rw[R j B]at hj;exact lM st L x (fo H hj hx)
  have N:∀(j:Nat)(u:DT),cs[j]?=some u→OwnT w u:=by
   intro j u hj;have B:j<ti.size:=by
    rcases Em j cs.length with g|g
    ·omega
    ·rw[Ek g]at hj;cases hj
   rw[R j B]at hj;have:=OwnT.getN st G6 L;cases this with
   |nil=>simp at H
   |s _ _ _ h hsp c' e' lo H3 hb hcap hroom hf hh=>exact hh i row _ u H hj
  have l:∀(j:Nat)(u:DT),cs[j]?=some u→aS cx D (u.view (.lent K c false)):=fun j u hj=>kZ hc Y (G8 j u hj)
  split at e
  ·rename_i F;cases e;obtain⟨y,G,n⟩:=Cells.load h J A a (fun hf=>by rw[F]at hf;cases hf);rw[Ej F]at n;obtain⟨ys,rfl,n⟩:=n;refine⟨_,by rw[M];exact G,.agg ?_ ?_ ?_ ?_⟩
   ·have:=ml (fun _ u=>u.view (.lent K c false)) (fun _ _ _=>kq.2) n
    rwa [nP]at this
   ·intro t m;obtain⟨u,hu,rfl⟩:=Ex.1 m;exact gr (A.holds _ hu)
   ·intro t m;obtain⟨u,hu,rfl⟩:=Ex.1 m;obtain⟨j,hj⟩:=En hu;exact l j u hj
   ·intro t m;obtain⟨u,hu,rfl⟩:=Ex.1 m;exact kk (by simp) _
  ·rename_i F;have Q:cs.length=1:=by split at e<;>first|rfl|cases e
   obtain⟨y,G,n⟩:=Cells.load h J A a (fun _=>Q);rw[Eu F]at n;obtain⟨u,rfl,n⟩:=n;refine⟨y,by rw[M];exact G,?_⟩;have hu:row[o]?=some u:=by have:=R 0 (by simp at a;omega);simpa using this.symm
   split at e
   ·rename_i d1 z1 C q;cases q;cases e;refine⟨⟨d1,z1,C.length,_,⟨t₀,hc,Y,.own,C,ro st L H hu,rfl⟩,by omega,n,?_,fun _=>Dec.addr_none (N 0 _ rfl).sp⟩,
     ⟨fun t m=>by simp[af]at m,fun t m=>by simp[rootsO]at m,trivial⟩,fun t m=>by simp[af]at m,rfl⟩
    intro hcap;have J:=N 0 _ rfl;have hs:=J.sp;cases J with
    |nil d z h W G4=>omega
    |s d z rows K=>simp[Dec.addr,K,hs]
   ·rename_i X q;cases q;cases e;exact .one (kq.2 n) (gr (A.holds _ (by simp))) (l 0 _ rfl) (kk (by simp) _)
   ·cases e
 ·rename_i k b ts o;have M:yp = .pointer (some ⟨b.1,b.2+o,none⟩):=O.val;split at e
  ·rename_i U;have Z:k.unr ≠ .own:=by
    intro hk;cases k with
    |own=>exact O.kind
    |_=>cases hk
   have A:Cells w b.1 (b.2+o) ((ts.drop o).take ti.size):=by
    obtain⟨c',e',f,hb,hv⟩:=O.mem.2.2;refine⟨⟨c',e',f,hb,fun j t hj=>?_⟩,fun t m=>O.mem.1 t (Fi (Fz m))⟩;have B:j<ti.size:=by
     rcases Em j ti.size with g|g
     ·exact g
     ·rw[Fe,Eu (by omega)]at hj;cases hj
    rw[Fe,Ej B,E4]at hj;have:=hv _ t hj;rw[←Fp]at this;exact this
   have a:((ts.drop o).take ti.size).length=ti.size:=by simp;omega
   have l:∀u∈(ts.drop o).take ti.size,aS cx D (u.view k.unr):=fun u hu =>uJ O.kind (Fi (Fz hu))
   split at e
   ·rename_i F;cases e;obtain⟨y,G,n⟩:=Cells.load h J A a (fun hf=>by rw[F]at hf;cases hf);rw[Ej F]at n;obtain⟨ys,rfl,n⟩:=n;refine⟨_,by rw[M];exact G,.agg ?_ ?_ ?_ ?_⟩
    ·have:=ml (fun _ u=>u.view k.unr) (fun _ _ _=>kq.2) n
     rwa [nP]at this
    ·intro t m;obtain⟨u,hu,rfl⟩:=Ex.1 m;exact gr (A.holds _ hu)
    ·intro t m;obtain⟨u,hu,rfl⟩:=Ex.1 m;exact l u hu
    ·intro t m;obtain⟨u,hu,rfl⟩:=Ex.1 m;exact kk Z _
   ·rename_i F;split at e
    ·rename_i u q;cases e;rw[q]at A a l;obtain⟨y,G,n⟩:=Cells.load h J A a (fun _=>rfl);rw[Eu F]at n;obtain⟨u',G9,n⟩:=n;cases G9;exact⟨y,by rw[M];exact G,.one (kq.2 n) (gr (A.holds _ (by simp))) (l _ (by simp)) (kk Z _)⟩
    ·cases e
  ·cases e
 ·cases e
end
section
structure Mk (δ β:Type) where
 nil:δ
 win:δ→Nat→Nat→δ
 at_:δ→Nat→Nat→β
 ptr:β→δ
def mkD:Mk Dec (Nat×Nat) where
 nil:=nilD
 win d l z:={ d with o:=if d.cap=l then d.o else d.o+l*z,cap:=d.cap-l }
 at_ d i z:=(d.b,d.o+i*z)
 ptr b:=⟨b.1,b.2,1,false,none⟩
def mkU:Mk Unit Unit where
 nil:=()
 win _ _ _:=()
 at_ _ _ _:=()
 ptr _:=()
section
variable  {δ β : Type}
def intOfSl:Sl δ β→Option Int| .one (.v (.int _ n))=>some n|_=>none
def iS (D:St δ β)(h c:Nat)(st:List (Nat×Nat)):Option Nat :=
 match bC D h c st with
 |some (.s _ _ z _)=>some z
 |_=>none
def fT (M:Mk δ β)(D:St δ β)(tab:Tab)(t:Nat)(x:Sl δ β)(lo hi:Option Int):Option (Sl δ β):=
 match x with
 | .one (.v (.string s))=>
  if((tab.ti t).map (·.sh))=some .str then
   if 0≤lo.getD 0∧lo.getD 0≤hi.getD s.size∧hi.getD s.size≤(s.size:Int)then some (.one (.v (.string (s.extract (lo.getD 0).toNat (hi.getD s.size).toNat))))else none
  else none
 | .one (.s k d z rows)=>
  if k = .own then none else
  match tab.ti t with
  |some ⟨_,_,_,.slice e⟩=>
   if((tab.ti e).map (·.size))=some z then
    if 0≤lo.getD 0∧lo.getD 0≤hi.getD rows.length∧hi.getD rows.length≤(rows.length:Int)then
     some (.one (.s k.unr (M.win d (lo.getD 0).toNat z) z ((rows.drop (lo.getD 0).toNat).take ((hi.getD rows.length).toNat-(lo.getD 0).toNat))))else none
   else none
  |_=>none
 | .al h c st l len =>
  match tab.ti t with
  |some ⟨_,_,_,.slice e⟩=>
   if((tab.ti e).map (·.size))=iS D h c st then
    if 0≤lo.getD 0∧lo.getD 0≤hi.getD len∧hi.getD len≤(len:Int)then
     some (.al h c st (l+(lo.getD 0).toNat) ((hi.getD len).toNat-(lo.getD 0).toNat))else none
   else none
  |_=>none
 |_=>none
end
abbrev bV (lo:Option (IntKind×Int)):Option Value:=lo.map fun p=>Value.int p.1 p.2
theorem mH {P:Program}(w:World)(b:Bool)(len cap:Nat)(lo hi:Option (IntKind×Int))(hc:len≤cap)
  (h:0≤(lo.map Prod.snd).getD 0∧(lo.map Prod.snd).getD 0≤(hi.map Prod.snd).getD (len:Int)∧(hi.map Prod.snd).getD (len:Int)≤(cap:Int)):
  (Instr.sliceBounds b len cap (bV lo) (bV hi) none).run P w = .ok (((lo.map Prod.snd).getD 0).toNat,((hi.map Prod.snd).getD (len:Int)).toNat,cap) w:=by
 obtain⟨d,a,c⟩:=h;cases lo with
 |none =>
  cases hi with
  |none=>simp[Instr.sliceBounds]
  |some p =>simp at a c;simp[Instr.sliceBounds,run_sliceBound w p.1 p.2 cap _ a c]
 |some q =>
  cases hi with
  |none =>simp at d a c;simp[Instr.sliceBounds,run_sliceBound w q.1 q.2 len _ d a]
  |some p =>simp at d a c;simp[Instr.sliceBounds,run_sliceBound w p.1 p.2 cap _ (by omega) c,run_sliceBound w q.1 q.2 p.2.toNat _ d (by omega)]
theorem Al (d:Dec)(z l:Nat)(hs:d.sp=none∨l=0):
  (if d.cap=l then d.addr else d.addr.map (·.add (l*z)))=(mkD.win d l z).addr:=by
 rcases hs with hs|hs
 ·rw[Dec.addr_none hs,Dec.addr_none (d:=mkD.win d l z) (by simpa[mkD]using hs)];simp only[mkD];by_cases a:d.nil=true
  ·simp[a]
  ·simp only[a];by_cases hc:d.cap=l
   ·simp[hc]
   ·simp only[hc,E3,EE,Ee,EY];unfold Addr.add;split
    ·rename_i b;simp[b]
    ·rfl
 ·subst hs;have b:(mkD.win d 0 z).addr=d.addr:=by unfold Dec.addr mkD;simp
  rw[b];cases d.addr<;>simp[Addr.add]
theorem zQ {tab:Tab}{t:Nat}{s:Sh}(h:((tab.ti t).map (·.sh))=some s):∃ti,tab.ti t=some ti∧ti.sh=s:=by
 cases e:tab.ti t with
 |none=>rw[e]at h;cases h
 |some ti=>rw[e]at h;cases h;exact⟨ti,rfl,rfl⟩
theorem li {tab:Tab}{t:Nat}{n:Nat}(h:((tab.ti t).map (·.size))=some n):∃ti,tab.ti t=some ti∧ti.size=n:=by
 cases e:tab.ti t with
 |none=>rw[e]at h;cases h
 |some ti=>rw[e]at h;cases h;exact⟨ti,rfl,rfl⟩
theorem Holds.cap {w:World}{k:Kd}{d:Dec}{z:Nat}{rows:List (List DT)}(h:Holds w (.s k d z rows)):rows.length≤d.cap:=by
 cases h with
 |e=>simp
 |s _ _ _ _ h hsp c e f hb hcap hz hv hh=>exact hcap
theorem Holds.win {w:World}{k:Kd}{d:Dec}{z:Nat}{rows:List (List DT)}(h:Holds w (.s k d z rows))(l n:Nat)(r:l+n≤rows.length):
  Holds w (.s k (mkD.win d l z) z ((rows.drop l).take n)):=by
 cases h with
 |e=>simp;exact .e _ _ _
 |s _ _ _ _ h hsp c e f hb hcap hz hv hh =>
  have a:∀(i:Nat)(row:List DT),((rows.drop l).take n)[i]?=some row→rows[l+i]?=some row∧i<n:=by
   intro i row hi;rw[Fe]at hi;split at hi
   ·rw[E4]at hi;exact⟨hi, ‹_›⟩
   ·cases hi
  refine .s _ _ _ _ (by simpa[mkD]using h) (by simpa[mkD]using hsp) c e f (by simpa[mkD]using hb) (by simp[mkD];omega) ?_ ?_ ?_
  ·intro i row hi;exact hz _ row (a i row hi).1
  ·intro i row j t hi b;obtain⟨g,o⟩:=a i row hi;obtain⟨y,p,q⟩:=hv _ row j t g b;refine⟨y,?_,q⟩;have m:¬d.cap=l:=by omega
   simp only[mkD,m,E3];rw[←p];congr 1;rw[FC];omega
  ·intro i row j t hi b;exact hh _ row j t (a i row hi).1 b
theorem sK {k:Kd}{d:Dec}{z:Nat}{rows:List (List DT)}{l n:Nat}{x:Nat}(h:x∈bl (.s k (mkD.win d l z) z ((rows.drop l).take n))):x∈bl (.s k d z rows):=by
 rw[bR]at h ⊢;simp only[EI,Eq]at h ⊢;rcases h with h|⟨row,a,h⟩
 ·exact .inl h
 ·exact .inr ⟨row,Fi (Fz a),h⟩
variable  {P : Program}{tab : Tab}
theorem Inv.node {cx:Cx}{D:DSt}{j:List (DT×Value)}{tm:Array Value}{w:World}(I:Inv cx D j tm w){h c:Nat}{st:List (Nat×Nat)}{d:Dec}{z n:Nat}(l:cn D h c st d z n):
  ∃t k rows,am D h c=some t∧t.isOwn=true∧getN t st=some (.s k d z rows)∧rows.length=n∧Holds w (.s k d z rows)∧OwnT w (.s k d z rows):=by
 obtain⟨t,f,g,k,rows,a,m⟩:=l;obtain⟨s,hs,b,o,e,_⟩:=be f;have i:=I.mem s b;exact⟨t,k,rows,f,g,a,m,Holds.getN st (i.1 t o) a,OwnT.getN st (i.2.1 t e g) a⟩
theorem Tells.slice (ok:aK P tab){cx:Cx}{D:DSt}{V:List (DT×Value)}{tm:Array Value}{w:World}(I:Inv cx D V tm w){t:TypeId}{x s:DSl}{B:Value}(i:Tells cx D w x B)
  (lo hi:Option (IntKind×Int)) (e:fT mkD D tab t x (lo.map Prod.snd) (hi.map Prod.snd)=some s):
  ∃y,(Instr.sliceAt t B (bV lo) (bV hi) none).run P w = .ok y w∧Tells cx D w s y:=by
 unfold fT at e;split at e
 ·rename_i str;split at e
  ·rename_i hs;obtain⟨ti,f,C⟩:=zQ hs;have g:=mb (Tab.ok ok f) C;split at e
   ·rename_i hb;cases e;have r:B = .string str:=i.val.1;subst r;refine⟨_,?_,.one_v _ rfl⟩;rw[run_sliceAt_string w t _ _ _ _ g];simp[Instr.slice,run_underlying g,mH (P:=P) w false str.size str.size lo hi (EQ _) hb]
   ·cases e
  ·cases e
 ·rename_i k d z rows;split at e
  ·cases e
  rename_i F;split at e
  ·rename_i sz G W H f;have g:=cU (Tab.ok ok f) rfl;have b:P.elem t=H:=by simp[Program.elem,g]
   split at e
   ·rename_i hz;obtain⟨X,j,m⟩:=li hz;split at e
    ·rename_i hb;cases e;have J:=i.mem.1 (.s k d z rows) (by simp[af]);have hcap:=J.cap;have r:B = .slice d.addr rows.length d.cap:=i.val;have Y:(T.s k d z rows).isOwn=false:=by cases k<;>first|rfl|exact absurd rfl F
     have o:=mH (P:=P) w true rows.length d.cap lo hi hcap ⟨hb.1,hb.2.1,Int.le_trans hb.2.2 (by omega)⟩;have p:=fU (Tab.ok ok j) w;obtain⟨Z,q,u⟩:=hb;refine⟨_,?_,.one (y := .slice (mkD.win d ((lo.map Prod.snd).getD 0).toNat z).addr
      ((rows.drop ((lo.map Prod.snd).getD 0).toNat).take (((hi.map Prod.snd).getD (rows.length:Int)).toNat-((lo.map Prod.snd).getD 0).toNat)).length (mkD.win d ((lo.map Prod.snd).getD 0).toNat z).cap) rfl (kX (J.win _ _ ?_)) ?_ ?_⟩
     ·rw[run_sliceAt_slice w t _ _ _ _ (by rw[b];exact g),r,run_slice_any w t _ _ _ (by rw[b];exact g),o];simp only[Result.andThen_ok,b,p,m];congr 1;unfold sliced;have:=Al d z ((lo.map Prod.snd).getD 0).toNat (by
       by_cases S:rows=[]
       ·subst S;have K:=q;have L:=u;simp only[Gk]at K L;right;omega
       ·exact .inl (J.sp S))
      rw[this];congr 1;simp only[List.length_take,List.length_drop];omega
     ·omega
     ·have v:=i.kind (.s k d z rows) (by simp[af]);cases k with
      |own=>exact absurd rfl F
      |far=>exact fun x i=>v x (sK i)
      |lent h' c fl =>obtain⟨t,q,u,M⟩:=v;exact⟨t,q,u,fun x i=>M.1 x (sK i),fun h=>by cases h⟩
     ·cases k<;>first|rfl|exact absurd rfl F
    ·cases e
   ·cases e
  ·cases e
 ·rename_i h c st l len;split at e
  ·rename_i sz G W H f;have g:=cU (Tab.ok ok f) rfl;have b:P.elem t=H:=by simp[Program.elem,g]
   obtain⟨d,z,n,a,N,G4,r,ha,O⟩:=i.val;have Q:iS D h c st=some z:=by obtain⟨t,q,u,k,rows,M,U⟩:=N;simp[iS,bC,q,M]
   rw[Q]at e;split at e
   ·rename_i hz;obtain⟨X,j,m⟩:=li hz;split at e
    ·rename_i hb;cases e;have p:=fU (Tab.ok ok j) w;have hcap:n≤d.cap:=by obtain⟨_,_,_,_,_,_,U,h5,_⟩:=I.node N;rw[←U];exact h5.cap
     have o:=mH (P:=P) w true len (d.cap-l) lo hi (by omega) ⟨hb.1,hb.2.1,Int.le_trans hb.2.2 (by omega)⟩;obtain⟨Z,q,u⟩:=hb;refine⟨_,?_,⟨⟨d,z,n,(if d.cap-l=((lo.map Prod.snd).getD 0).toNat then a else a.map (·.add (((lo.map Prod.snd).getD 0).toNat*z))),N,?_,rfl,?_,?_⟩,⟨fun t A=>by simp[af]at A,fun t A=>by simp[rootsO]at A,trivial⟩,fun t A=>by simp[af]at A,rfl⟩⟩
     ·rw[run_sliceAt_slice w t _ _ _ _ (by rw[b];exact g),r,run_slice_any w t _ _ _ (by rw[b];exact g),o];simp only[Result.andThen_ok,b,p,m,sliced];congr 2;omega
     ·omega
     ·intro hc;rw[Eu (by omega),ha (by omega)];simp only[Ee,EY];unfold Addr.add;split
      ·rename_i G5;simp only[Addr.mk.injEq,Gr,GK];rw[FC];omega
      ·simp only[Addr.mk.injEq,Gr,GK];rw[FC];omega
     ·intro G6;have hl:l=0:=by omega
      have R:((lo.map Prod.snd).getD 0).toNat=0:=by omega
      rw[R,O hl];split
      ·rfl
      ·split<;>simp[Addr.add]
    ·cases e
   ·cases e
  ·cases e
 ·cases e
end
section
section
variable  {δ β : Type}
def fW (s:GM)(i:Int):Int:=((s[i.toNat]?.map fun b=>(b.toNat:Int)).getD 0)
def dD (M:Mk δ β)(D:St δ β)(tab:Tab)(t:Nat)(x:Sl δ β)(i:Int):Option (Sl δ β):=
 match tab.ti t with
 |some ⟨_,_,_,.slice e⟩=>
  match x with
  | .one (.s k d z rows)=>
   if k = .own then none else
   if((tab.ti e).map (·.size))=some z then
    if 0≤i then(rows[i.toNat]?).map fun row=>.im k (M.at_ d i.toNat z) row 0 else none
   else none
  | .al h c st lo len =>
   if((tab.ti e).map (·.size))=iS D h c st then
    if 0≤i∧i<(len:Int)then some (.pe h c st (lo+i.toNat) 0)else none
   else none
  |_=>none
 |_=>none
def fJ (tab:Tab)(t:Nat)(x:Sl δ β)(f:Nat):Option (Sl δ β):=
 match tab.ti t with
 |some ⟨_,_,_,.struct offs⟩=>
  (offs[f]?).bind fun o =>
  match x with
  | .pb h off=>some (.pb h (off+o))
  | .pe h c st i off=>some (.pe h c st i (off+o))
  | .im k b ts off=>some (.im k b ts (off+o))
  |_=>none
 |_=>none
def mD (tab:Tab)(t:Nat)(x:Sl δ β):Option Int :=
 match tab.ti t with
 |some ⟨_,_,_,.slice _⟩=>
  match x with
  | .one (.s k _ _ rows)=>if k = .own then none else some rows.length
  | .al _ _ _ _ len=>some len
  |_=>none
 |some ⟨_,_,_,.str⟩=>
  match x with
  | .one (.v (.string s))=>some s.size
  |_=>none
 |_=>none
def qf:Sl δ β→Bool| .pb _ _=>true| .pe _ _ _ _ _=>true| .im _ _ _ _=>true|_=>false
def dQ (nil:δ)(D:St δ β):Option Operand→Option (Option Int)
 |none=>some none
 |some x=>match opd nil D x with
  |some (.one (.v (.int _ n)))=>some (some n)
  |_=>none
def pV (M:Mk δ β)(tab:Tab)(D:St δ β)(c:Call):Option (Sl δ β):=
 match c.callee,c.args.toList,c.argTypes.toList with
 | .builtin .len,[x],[t]=>(opd M.nil D x).bind fun s=>(mD tab t s).map fun n=>.one (.v (.int .i64 n))
 | .builtin .max,[x,y],_ =>
  match opd M.nil D x,opd M.nil D y with
  |some (.one (.v (.int k a))),some (.one (.v (.int _ b)))=>some (.one (.v (.int k (if b>a then b else a))))
  |_,_=>none
 | .builtin .min,[x,y],_ =>
  match opd M.nil D x,opd M.nil D y with
  |some (.one (.v (.int k a))),some (.one (.v (.int _ b)))=>some (.one (.v (.int k (if b<a then b else a))))
  |_,_=>none
 |_,_,_=>none
def a9 (M:Mk δ β)(tab:Tab)(D:St δ β)(op:Op):Option (Sl δ β):=
 match op with
 | .move x=>opd M.nil D x
 | .assign x=>opd M.nil D x
 | .pick c a b =>
  match opd M.nil D c with
  |some (.one (.v (.bool true)))=>opd M.nil D a
  |some (.one (.v (.bool false)))=>opd M.nil D b
  |_=>none
 | .nilCheck x=>(opd M.nil D x).bind fun s=>if qf s then some s else none
 | .binOp op t x y _ =>
  match opd M.nil D x,opd M.nil D y with
  |some (.one (.v a)),some (.one (.v b))=>(ex tab op t a b).map fun z=>.one (.v z)
  |some (.agg us),some (.agg e)=>(eqS tab op t us e).map fun z=>.one (.v z)
  |_,_=>none
 | .unOp op _ x =>
  match opd M.nil D x with
  |some (.one (.v (.bool b)))=>(match op with| .not=>some (.one (.v (.bool !b)))|_=>none)
  |some (.one (.v (.int k n)))=>(match op with| .neg=>some (.one (.v (.int k (k.wrap (0-n)))))|_=>none)
  |_=>none
 | .convert d dst x =>
  match opd M.nil D x,tab.ti d,tab.ti dst with
  |some (.one (.v (.int _ n))),some _,some ⟨_,_,_,.int k⟩=>some (.one (.v (.int k (k.wrap n))))
  |_,_,_=>none
 | .load t x =>
  match opd M.nil D x,tab.ti t with
  |some p,some ti=>if ti.sh = .other then none else en D ti p
  |_,_=>none
 | .fieldAddr t x f=>(opd M.nil D x).bind fun p=>fJ tab t p f
 | .indexAddr t x i =>
  match opd M.nil D x,opd M.nil D i with
  |some p,some (.one (.v (.int _ n)))=>dD M D tab t p n
  |_,_=>none
 | .index t x i =>
  match opd M.nil D x,opd M.nil D i with
  |some (.one (.v (.string s))),some (.one (.v (.int _ n)))=>
   if((tab.ti t).map (·.sh))=some .str then
    if 0≤n∧n<(s.size:Int)then some (.one (.v (.int .u8 (fW s n))))else none
   else none
  |some (.clo (.arr offs) hs),some (.one (.v (.int _ n)))=>
   if 0≤n∧tab.ars.lookup t=some hs.length∧offs.length=hs.length then
    match hs[n.toNat]?,offs[n.toNat]? with
    |some h,some o=>some (.pb h o)
    |_,_=>none
   else none
  |_,_=>none
 | .slice t x lo hi none =>
  match opd M.nil D x,dQ M.nil D lo,dQ M.nil D hi with
  |some s,some l,some h=>fT M D tab t s l h
  |_,_,_=>none
 | .call c=>pV M tab D c
 |_=>none
end
variable  {P : Program}{tab : Tab}
theorem Tells.indexAddr (ok:aK P tab){cx:Cx}{D:DSt}{V:List (DT×Value)}{tm:Array Value}{w:World}(I:Inv cx D V tm w){t:TypeId}{x s:DSl}{K:Value}(H:Tells cx D w x K)
  {k:IntKind} {i:Int} (e:dD mkD D tab t x i=some s):∃y,(Instr.indexAt t K (.int k i)).run P w = .ok y w∧Tells cx D w s y:=by
 unfold dD at e;split at e
 ·rename_i sz W ze X L;have M:=cU (Tab.ok ok L) rfl;have p:P.elem t=X:=by simp[Program.elem,M]
  split at e
  ·rename_i kd d z rows;split at e
   ·cases e
   rename_i Y;split at e
   ·rename_i hz;obtain⟨Z,q,r⟩:=li hz;split at e
    ·rename_i hi;rw[Ei]at e;obtain⟨row,l,rfl⟩:=e;have v:=fU (Tab.ok ok q) w;have F:K = .slice d.addr rows.length d.cap:=H.val;have hH:=H.mem.1 (.s kd d z rows) (by simp[af]);have G4:i.toNat<rows.length:=by
      rcases Em i.toNat rows.length with g|g
      ·exact g
      ·rw[Ek g]at l;cases l
     cases hH with
     |e=>simp at l
     |s _ _ _ _ h hsp c e f hb hcap G5 hv hh =>
      rw[Dec.addr_none hsp,h]at F;simp only[EE,E3]at F;refine⟨.pointer (some ⟨d.b,d.o+i.toNat*z,none⟩),?_,⟨rfl,⟨?_,?_,?_⟩,?_,rfl⟩⟩
      ·rw[F,run_indexAt_slice w t _ _ _ _ _ (by rw[p];exact M),Ej ⟨hi,by omega⟩,p,v];simp only[Result.andThen_ok,r];unfold Addr.add;split
       ·rename_i N;simp[N]
       ·rfl
      ·intro u m;obtain⟨j,A⟩:=En m;exact hh _ row j u l A
      ·intro u m ho;simp[rootsO]at m
      ·exact⟨c,e,f,hb,fun j u A=>hv _ row j u l A⟩
      ·have B:=H.kind (.s kd d z rows) (by simp[af]);cases kd with
       |own=>exact absurd rfl Y
       |far=>exact⟨B d.b (fO h),fun u m x C=>by obtain⟨j,A⟩:=En m;exact B x (fo l A C)⟩
       |lent h' c' fl =>obtain⟨t,O,S,J,G6⟩:=B;exact⟨t,O,S,J _ (fO h),fun u m x C=>by obtain⟨j,A⟩:=En m;exact J x (fo l A C)⟩
    ·cases e
   ·cases e
  ·rename_i h c st lo len;obtain⟨d,z,n,a,Q,G7,F,ha,G8⟩:=H.val;have R:iS D h c st=some z:=by obtain⟨t,O,S,k,rows,J,U⟩:=Q;simp[iS,bC,O,J]
   rw[R]at e;split at e
   ·rename_i hz;obtain⟨Z,q,r⟩:=li hz;split at e
    ·rename_i hi;cases e;have v:=fU (Tab.ok ok q) w;have hcap:n≤d.cap:=by obtain⟨_,_,_,_,_,_,U,h5,_⟩:=I.node Q;rw[←U];exact h5.cap
     rw[ha (by omega)]at F;refine⟨.pointer (some ⟨d.b,d.o+(lo+i.toNat)*z,none⟩),?_,⟨⟨d,z,n,Q,by omega,rfl⟩,⟨fun t G=>by simp[af]at G,fun t G=>by simp[rootsO]at G,trivial⟩,fun t G=>by simp[af]at G,rfl⟩⟩;rw[F,run_indexAt_slice w t _ _ _ _ _ (by rw[p];exact M),Ej ⟨hi.1,by omega⟩,p,v];simp only[Result.andThen_ok,r];unfold Addr.add;split
     ·rename_i N;rw[FC,N];rfl
     ·rw[FC,Fp]
    ·cases e
   ·cases e
  ·cases e
 ·cases e
end
section
variable  {P : Program}{tab : Tab}
theorem Tells.fieldAddr (ok:aK P tab){cx:Cx}{D:DSt}{w:World}{t:TypeId}{x s:DSl}{p:Value}(a:Tells cx D w x p){f:Nat}
  (e:fJ tab t x f=some s):∃y,(Instr.fieldAt t p f).run P w = .ok y w∧Tells cx D w s y:=by
 unfold fJ at e;split at e
 ·rename_i sz A F offs q;obtain⟨fs,B,c,r⟩:=yO (Tab.ok ok q) rfl;simp only[Eh]at e;obtain⟨o,v,e⟩:=e;rw[c,Et,Ei]at v;obtain⟨h,hfl,rfl⟩:=v;obtain⟨i,hi,u⟩:=r h (by have:=Ef hfl;simpa using this);have g:∀(b off:Nat),(Instr.fieldAt t (.pointer (some ⟨b,off,none⟩)) f).run P w = .ok (.pointer (some ⟨b,off+h.offset,none⟩)) w:=by
   intro b off;have j:fs[f]?=some h:=by simpa using hfl
   have:Addr.add ⟨b,off,none⟩ h.offset=⟨b,off+h.offset,none⟩:=by unfold Addr.add;split<;>simp_all
   simp[Instr.fieldAt,run_underlying B,j,Instr.sureAddr,fieldPlace,sizeOf,typeInfo,hi,u,this]
  split at e
  ·cases e;obtain⟨b,ts,hb,l⟩:=a.val;exact⟨_,by rw[l];exact g _ _,⟨⟨b,ts,hb,by rw[Fp]⟩,a.mem,a.kind,rfl⟩⟩
  ·cases e;obtain⟨d,z,n,C,m,l⟩:=a.val;exact⟨_,by rw[l];exact g _ _,⟨⟨d,z,n,C,m,by rw[Fp]⟩,a.mem,a.kind,rfl⟩⟩
  ·rename_i k b ts off;cases e;have l:p = .pointer (some ⟨b.1,b.2+off,none⟩):=a.val;exact⟨_,by rw[l];exact g _ _,⟨by show _=_;rw[Fp],a.mem,a.kind,rfl⟩⟩
  ·cases e
 ·cases e
theorem Tells.len (ok:aK P tab){cx:Cx}{D:DSt}{w:World}{t:TypeId}{x:DSl}{i:Value}(h:Tells cx D w x i){n:Int}
  (e:mD tab t x=some n) (ty:TypeId):(Builtin.len_ #[t] ty #[i]).run P w = .ok (.int .i64 n) w:=by
 unfold mD at e;split at e
 ·rename_i sz j o k b;have f:=cU (Tab.ok ok b) rfl;have g:P.elem t=k:=by simp[Program.elem,f]
  split at e
  ·split at e
   ·cases e
   ·cases e;have c:=h.val;simp only[VS,VT]at c;rw[c,run_len_slice w t ty _ _ _ (by rw[g];exact f)];rfl
  ·cases e;obtain⟨d,z,n,a,p,l,c,q,m⟩:=h.val;rw[c,run_len_slice w t ty _ _ _ (by rw[g];exact f)];rfl
  ·cases e
 ·rename_i b;have f:=mb (Tab.ok ok b) rfl;split at e
  ·cases e;have c:=h.val.1;rw[c,run_len_string w t ty _ f];rfl
  ·cases e
 ·cases e
theorem Ae {cx:Cx}{D:DSt}{w:World}{s:DSl}{y:Value}(h:Tells cx D w s y)(e:qf s=true):∃a,y = .pointer (some a):=by
 cases s<;>simp[qf]at e
 ·obtain⟨b,ts,_,c⟩:=h.val;exact⟨_,c⟩
 ·obtain⟨d,z,n,_,_,c⟩:=h.val;exact⟨_,c⟩
 ·exact⟨_,h.val⟩
theorem oT {cx:Cx}{D:DSt}{b:List (DT×Value)}{a:Act}{w:World}(I:Inv cx D b a.tmps w){x:Option Operand}{n:Option Int}(h:dQ nilD D x=some n):
  ∃p:Option (IntKind×Int),n=p.map Prod.snd∧x.map a.eval=bV p:=by
 unfold dQ at h;split at h
 ·cases h;exact⟨none,rfl,rfl⟩
 ·rename_i x;split at h
  ·rename_i k n' e;cases h;have:=(I.opd e).val.1;exact⟨some (k,n'),rfl,by simp only[Ee];rw[show a.eval x=_ from this]⟩
  ·cases h
theorem zW (ok:aK P tab){op:BinOp}{t:Nat}{us k:List DT}{xs ys:Array Value}(p:VCells us xs.toList)(q:VCells k ys.toList){z:Value}(e:eqS tab op t us k=some z)(x y:Operand)(w:World):
  (do eqGuard op t x y (.agg xs) (.agg ys);binOp op t (.agg xs) (.agg ys):Sem Value).run P w = .ok z w∧z.oneCell'=true:=by
 have g:∀{b:Bool},(tab.eq t).bind (eK tab us k)=some b→(∀a,(eqGuard a t x y (.agg xs) (.agg ys)).run P w = .ok () w)∧(Op.equalIn 10000 t (.agg xs) (.agg ys)).run P w = .ok b w:=by
  intro b h;rw[Eh]at h;obtain⟨l,j,s⟩:=h;have d:=Tab.okEq ok j;unfold wE at d;split at d
  ·rename_i fs r;split at d
   ·rename_i hc;cases d;refine⟨fun a=>run_eqGuard_agg w a t x y xs ys hc.2.1,?_⟩;have hf:P.fieldsOf t=fs:=by simp[Program.fieldsOf,r]
    rw[run_equalIn_struct (P:=P) w 9999 t xs ys (by rw[hf];exact r) hc.1,hf];have v : ∀ f ∈ fs.toList, (f.name == "_") = false := by intro f m;have:=hc.2.2;rw[Gg]at this;have:=this f (by simpa using m);simpa using this
    exact oI ok (fun i u y hi c=>p.2 i u y hi (by simpa using c)) (fun i u y hi c=>q.2 i u y hi (by simpa using c)) (by simpa using p.1) (by simpa using q.1) 9998 w fs.toList v s
   ·cases d
  ·cases d
 unfold eqS at e;split at e
 ·rw[Ei]at e;obtain⟨b,j,rfl⟩:=e;obtain⟨n,o⟩:=g j;refine⟨?_,rfl⟩;simp only[Sem.run_bind,n,Result.andThen_ok];rw[run_eql_struct,o];rfl
 ·rw[Ei]at e;obtain⟨b,j,rfl⟩:=e;obtain⟨n,o⟩:=g j;refine⟨?_,rfl⟩;simp only[Sem.run_bind,n,Result.andThen_ok];rw[run_neq_struct,o];rfl
 ·cases e
theorem Tells.indexArr {P:Program}{tab:Tab}(ok:aK P tab){cx:Cx}{D:DSt}{w:World}{t:TypeId}{offs hs:List Nat}{q:Value}(r:Tells cx D w (.clo (.arr offs) hs) q){k:IntKind}{n:Int}(s:0≤n)
  (v:tab.ars.lookup t=some hs.length) (F:offs.length=hs.length) {h o:Nat} (hh:hs[n.toNat]?=some h) (x:offs[n.toNat]?=some o):
  ∃y,(Instr.index t q (.int k n)).run P w = .ok y w∧Tells cx D w (.pb h o) y:=by
 have a:=ok.ars _ (dZ v);obtain⟨c,G,z,A⟩:=r.val;have B:n.toNat<hs.length:=by
  rcases Em n.toNat hs.length with g|g
  ·exact g
  ·rw[Ek g]at hh;cases hh
 have hb:c[n.toNat]?=some c[n.toNat]:=El (by omega);obtain⟨ts,C⟩:=z _ _ _ hh hb;unfold yW at a;split at a
 case h_2=>cases a
 rename_i len e d;split at a
 case h_2=>cases a
 rename_i pe i j l;split at a
 case isFalse=>cases a
 rename_i m;cases a;have b:((c.zip offs).map fun p=>Value.pointer (some ⟨p.1.1,p.1.2+p.2,none⟩)).toArray[n.toNat]?=some (Value.pointer (some ⟨c[n.toNat].1,c[n.toNat].2+o,none⟩)):=by
  have hz:(c.zip offs)[n.toNat]?=some (c[n.toNat],o):=by rw[FT];exact⟨hb,x⟩
  rw[F6,Et,hz];rfl
 refine⟨.pointer (some ⟨c[n.toNat].1,c[n.toNat].2+o,none⟩),?_,⟨⟨_,ts,C,rfl⟩,⟨fun u d=>by simp[af]at d,fun u d=>by simp[rootsO]at d,trivial⟩,fun u d=>by simp[af]at d,rfl⟩⟩;rw[A];have f:(0≤n∧n<(hs.length:Int)):=⟨s,by omega⟩
 simp only[sR]at b ⊢;generalize (List.map (fun p=>Value.pointer (some ⟨p.1.1,p.1.2+p.2,none⟩)) (c.zip offs)).toArray=arr at b ⊢;simp[Instr.index,asIntOf,Go.underlying,d,f,part,isAgg,j,sizeOf,typeInfo,l,m,b]
theorem jI (ok:aK P tab){cx:Cx}{D:DSt}{a:Act}{w:World}(I:Inv cx D [] a.tmps w){o:Oper}{s:DSl}(e:a9 mkD tab D o.op=some s):
  ∃y,(execOp a.eval o).run P w = .ok (.value y) w∧Tells cx D w s y:=by
 have q:∀{x:Operand}{s:DSl},opd mkD.nil D x=some s→Tells cx D w s (a.eval x):=fun h=>I.opd h
 have one:∀{x:Operand}{v:Value},opd mkD.nil D x=some (.one (.v v))→a.eval x=v:=fun h=>(I.opd h).val.1
 unfold a9 at e;split at e
 ·rename_i x g;exact⟨_,by simp[execOp,g],q e⟩
 ·rename_i x g;exact⟨_,by simp[execOp,g],q e⟩
 ·rename_i c x y g;split at e
  ·rename_i hc;exact⟨_,by simp[execOp,g,one hc,asBool],q e⟩
  ·rename_i hc;exact⟨_,by simp[execOp,g,one hc,asBool],q e⟩
  ·cases e
 ·rename_i x g;simp only[Eh]at e;obtain⟨s',hs,e⟩:=e;split at e
  ·rename_i r;cases e;obtain⟨ad,L⟩:=Ae (q hs) r;exact⟨a.eval x,by simp[execOp,g,L],q hs⟩
  ·cases e
 ·rename_i op t x y ty g;split at e
  ·rename_i J K F hb;rw[Ei]at e;obtain⟨z,hz,rfl⟩:=e;have:=yY ok x y w hz;refine⟨z,?_,.one_v _ (yX hz)⟩;simp only[execOp,g,one F,one hb];simp only[Sem.run_bind]at this ⊢;rw[this];rfl
  ·rename_i us vs F hb;rw[Ei]at e;obtain⟨z,hz,rfl⟩:=e;obtain⟨xs,M,N⟩:=(q F).val;obtain⟨ys,X,O⟩:=(q hb).val;obtain⟨m,u⟩:=zW ok (op:=op) (t:=t) N O hz x y w;refine⟨z,?_,.one_v _ u⟩;simp only[execOp,g,M,X];simp only[Sem.run_bind]at m ⊢;rw[m];rfl
  ·cases e
 ·rename_i op t x g;split at e
  ·rename_i b hb;split at e
   ·cases e;exact⟨_,by simp[execOp,g,one hb,Op.unary],.one_v _ rfl⟩
   ·cases e
  ·rename_i k n hb;split at e
   ·cases e;exact⟨_,by simp[execOp,g,one hb,Op.unary,Op.intArith],.one_v _ rfl⟩
   ·cases e
  ·cases e
 ·rename_i Q dst x g;split at e
  ·rename_i k n ts sz Y ze k' M hs hd;cases e;have m:=qt (Tab.ok ok hd) rfl;obtain⟨i,d,z,g1,Z,_⟩:=cW (Tab.ok ok hs);have W:P.intKind dst=k':=by simp[Program.intKind,m]
   refine⟨_,?_,.one_v _ rfl⟩;simp only[execOp,g,one M,Sem.run_bind];rw[run_convert_int w Q dst k n (by simp[Z]) (by rw[W];exact m)];simp[W]
  ·cases e
 ·rename_i t x g;split at e
  ·rename_i p ti r A;split at e
   ·cases e
   ·rename_i R;obtain⟨y,m,u⟩:=Tells.load I (Tab.ok ok A) R (q r) e;exact⟨y,by simp[execOp,g,m],u⟩
  ·cases e
 ·rename_i t x f g;simp only[Eh]at e;obtain⟨p,r,e⟩:=e;obtain⟨y,m,u⟩:=Tells.fieldAddr ok (q r) e;exact⟨y,by simp[execOp,g,m],u⟩
 ·rename_i t x i g;split at e
  ·rename_i p k n r G;obtain⟨y,m,u⟩:=Tells.indexAddr ok I (q r) (k:=k) e;exact⟨y,by simp[execOp,g,one G,m],u⟩
  ·cases e
 ·rename_i t x i g;split at e
  ·rename_i str k n hs G;split at e
   ·rename_i A;obtain⟨ti,A,S⟩:=zQ A;have hu:=mb (Tab.ok ok A) S;split at e
    ·rename_i hb;cases e;refine⟨.int .u8 (fW str n),?_,.one_v _ rfl⟩;have G4:n.toNat<str.size:=by omega
     simp only[execOp,g,one hs,one G,Sem.run_bind];have:=run_index_string (P:=P) w t str k n hu;rw[this];simp[hb.1,hb.2,fW]
    ·cases e
   ·cases e
  ·rename_i offs hs k n r G;split at e
   case isFalse=>cases e
   rename_i hc;split at e
   case h_2=>cases e
   rename_i h o hh ho;cases e;obtain⟨y,m,u⟩:=Tells.indexArr ok (q r) (k:=k) hc.1 hc.2.1 hc.2.2 hh ho;exact⟨y,by simp[execOp,g,one G,m],u⟩
  ·cases e
 ·rename_i t x lo hi g;split at e
  ·rename_i s' l h hs hl hh;obtain⟨pl,rfl,U⟩:=oT I hl;obtain⟨ph,rfl,V⟩:=oT I hh;obtain⟨y,m,u⟩:=Tells.slice ok I (q hs) pl ph e;exact⟨y,by simp[execOp,g,U,V,m],u⟩
  ·cases e
 ·rename_i c g;unfold pV at e;split at e
  ·rename_i x t hc j C;obtain⟨H,args,B⟩:=c;simp only at hc j C;obtain rfl:args = #[x]:=by rw[←Fv];exact j
   obtain rfl:B = #[t]:=by rw[←Fv];exact C
   subst hc;simp only[Eh]at e;obtain⟨p,r,e⟩:=e;rw[Ei]at e;obtain⟨n,G,rfl⟩:=e;have:=Tells.len ok (q r) G o.type;exact⟨_,by simp[execOp,g,resolve,invoke,builtin,this],.one_v _ rfl⟩
  ·rename_i ts x y hc j;obtain⟨H,args,B⟩:=c;simp only at hc j;obtain rfl:args = #[x,y]:=by rw[←Fv];exact j
   subst hc;split at e
   ·rename_i k J k' K F hb;cases e;have:=run_max_int2 (P:=P) w B o.type k k' J K;exact⟨_,by simp[execOp,g,resolve,invoke,builtin,one F,one hb,this],.one_v _ rfl⟩
   ·cases e
  ·rename_i ts x y hc j;obtain⟨H,args,B⟩:=c;simp only at hc j;obtain rfl:args = #[x,y]:=by rw[←Fv];exact j
   subst hc;split at e
   ·rename_i k J k' K F hb;cases e;have:=run_min_int2 (P:=P) w B o.type k k' J K;exact⟨_,by simp[execOp,g,resolve,invoke,builtin,one F,one hb,this],.one_v _ rfl⟩
   ·cases e
  ·cases e
 ·cases e
end
def fY (t:DT)(st:List (Nat×Nat))(d:Dec)(z n:Nat):Prop:=∃k rows,getN t st=some (.s k d z rows)∧rows.length=n
def jg (h c:Nat)(st:List (Nat×Nat)):DSl→Prop| .al b d a _ _=>b=h∧d=c∧a=st| .pe b d a _ _=>b=h∧d=c∧a=st|_=>False
def jP (h c:Nat)(s:DSl):Prop :=(∃a b ts off,s = .im (.lent h c a) b ts off)∨∃a d z r,(.s (.lent h c a) d z r:DT)∈rootsO s
theorem nD {s:DSl}{cs a:List DT}(h:aD s=some cs)(c:a.length=cs.length):aD (setCells a s)=some a:=by
 cases s with
 |one t=>cases h;obtain⟨u,rfl⟩:=List.length_eq_one_iff.1 c;rfl
 |agg ts=>rfl
 |box b ts=>rfl
 |_=>cases h
theorem eQ {s:DSl}{cs:List DT}(h:aD s=some cs):af s=cs∧rootsO s=cs:=by cases s<;>cases h<;>exact⟨rfl,rfl⟩
theorem qQ {D D':DSt}{h c:Nat}{t':DT}(e:c7 D h c t'=some D'):
  ∃s cs,D[h]?=some s∧aD s=some cs∧D'=D.set h (setCells (cs.set c t') s):=by
 unfold c7 at e;split at e
 ·rename_i s hs;rw[Ei]at e;obtain⟨cs,a,rfl⟩:=e;exact⟨s,cs,hs,a,rfl⟩
 ·cases e
def lN (b:Nat):DSl→Nat| .box a _=>[a.1].count b|_=>0
theorem iU {s:DSl}{cs:List DT}(h:aD s=some cs)(b:Nat):(ownBl s).count b=lN b s+(cs.flatMap ownR).count b:=by
 cases s with
 |one t=>cases h;simp[ownBl,lN]
 |agg ts=>cases h;simp[ownBl,lN]
 |box a ts=>cases h;rw[lN, ←ED];rfl
 |_=>cases h
structure AU (cx:Cx)(D:DSt)(P P':List (DT×Value))(w w':World)(h c:Nat)(t t':DT):Prop where
 at_:am D h c=some t
 own:t.isOwn=true
 holds:Holds w' t'
 ownT:t'.isOwn=true→OwnT w' t'
 kind:t'.isOwn=true∨t' = .any
 val:∀y,VT t y→VT t' y
 cnt:∀b,(ownR t').count b+az P' b≤(if b<w.heap.size then(ownR t).count b+az P b else 1)
 new:∀b,w.heap.size≤b→0<(ownR t').count b+az P' b→b<w'.heap.size
 hides:∀s∈D,¬jP h c s
 speak:∀s∈D,∀st,jg h c st s→t'.isOwn=true∧∀d z n,fY t st d z n→fY t' st d z n
 size:w.heap.size≤w'.heap.size
 same:∀b,b<w.heap.size→b∉bl t→w'.heap[b]?=w.heap[b]?
 os:w'.os=w.os
 tape:w'.tape=w.tape
 output:w'.output=w.output
 pend:∀p∈P',VT p.1 p.2∧Holds w' p.1∧(p.1.isOwn=true→OwnT w' p.1)∧(p.1.isOwn=false→∀x∈bl p.1,cx.far x)
theorem br {D:DSt}{s:DSl}{b:Nat}(hs:s∈D)(hb:b∈ownBl s):0<aO D b:=by unfold aO;exact Ew.2 (Eq.2 ⟨s,hs,hb⟩)
theorem Inv.apart {cx:Cx}{D:DSt}{P:List (DT×Value)}{tm:Array Value}{w:World}(I:Inv cx D P tm w){u v:Nat}{s s':DSl}(a:u≠v)(hs:D[u]?=some s)(c:D[v]?=some s')
  {b:Nat} (hb:b∈ownBl s) (d:b∈ownBl s'):False:=by
 have f:=aV ownBl (Sl.any:DSl) b D u s hs;have g:(ownBl (Sl.any:DSl)).count b=0:=rfl;have h:0<((D.set u .any).flatMap ownBl).count b:=by refine Ew.2 (Eq.2 ⟨s',?_,d⟩);refine Ef (i:=v) ?_;rw[Es a];exact c
 have e:=I.once b;have j:0<(ownBl s).count b:=Ew.2 hb;unfold aO at e;omega
theorem wW {ts:List DT}{b:Nat}(hc:(ts.flatMap ownR).count b≤1){i j:Nat}{u v:DT}(a:i≠j)(hi:ts[i]?=some u)(c:ts[j]?=some v)(d:b∈ownR u)(hv:b∈ownR v):False:=by
 have e:=aV ownR (T.any:DT) b ts i u hi;have f:(ownR (T.any:DT)).count b=0:=rfl;have g:0<((ts.set i .any).flatMap ownR).count b:=by refine Ew.2 (Eq.2 ⟨v,?_,hv⟩);refine Ef (i:=j) ?_;rw[Es a];exact c
 have h:0<(ownR u).count b:=Ew.2 d;omega
theorem Inv.cells_once {cx:Cx}{D:DSt}{P:List (DT×Value)}{tm:Array Value}{w:World}(I:Inv cx D P tm w){h:Nat}{s:DSl}{cs:List DT}(hs:D[h]?=some s)(hc:aD s=some cs)(b:Nat):
  (cs.flatMap ownR).count b≤1:=by
 have c:=iU hc b;have a:=I.once b;have d:=aV ownBl (Sl.any:DSl) b D h s hs;have e:(ownBl (Sl.any:DSl)).count b=0:=rfl;unfold aO at a;omega
theorem Inv.owner {cx:Cx}{D:DSt}{P:List (DT×Value)}{tm:Array Value}{w:World}(I:Inv cx D P tm w){h c:Nat}{t:DT}(hc:am D h c=some t)(m:t.isOwn=true)
  {j k:Nat} {t':DT} (a:am D j k=some t') (d:t'.isOwn=true) {b:Nat} (hb:b∈bl t) (f:b∈bl t'):j=h∧k=c:=by
 obtain⟨s,q,B,C,r,u⟩:=be hc;obtain⟨s',v,F,G,x,y⟩:=be a;by_cases e:j=h
 ·subst e;refine⟨rfl,?_⟩;by_cases n:k=c
  ·exact n
  ·exfalso;unfold am at hc a;simp only[Eh]at hc a;obtain⟨cs,⟨H,o,p⟩,z⟩:=hc;obtain⟨A,⟨J,g,i⟩,l⟩:=a;rw[o]at g;cases g;rw[p]at i;cases i;exact wW (ts:=cs) (I.cells_once o p b) n l z (by simp[ownR,d,f]) (by simp[ownR,m,hb])
 ·exact(I.apart e v q (y d b f) (u m b hb)).elim
theorem Inv.root_out {cx:Cx}{D:DSt}{P:List (DT×Value)}{tm:Array Value}{w:World}(I:Inv cx D P tm w){h c:Nat}{t:DT}(hc:am D h c=some t)(q:t.isOwn=true)
  {u:Nat} {s:DSl} (hs:D[u]?=some s) (A:¬jP h c s) {v:DT} (hv:v∈af s) (J:u=h→∃(i:Nat) (cs:List DT),aD s=some cs∧cs[i]?=some v∧i≠c) {b:Nat} (hb:b∈bl v) (g:b∈bl t):False:=by
 obtain⟨sh,l,B,W,U,C⟩:=be hc;have m:=(I.bnd b (by have:=br B (C q b g);omega)).1;have y:=I.kind s (Ef hs);have a:v∈rootsO s→aS cx D v→(v.isOwn=true→False)→False:=by
  intro K F j;cases v with
  |v x=>simp[bl]at hb
  |any=>simp[bl]at hb
  |s k d z r =>
   cases k with
   |far=>exact Cx.far_not (F b hb) m
   |lent X Y L =>obtain⟨t',M,N,V,Z⟩:=F;obtain⟨rfl,rfl⟩:=I.owner hc q M N g (V b hb);exact A (.inr ⟨L,d,z,r,K⟩)
   |own=>exact j rfl
 have home:∀cs,aD s=some cs→v.isOwn=true→False:=by
  intro cs G j;by_cases e:u=h
  ·obtain⟨i,G4,H,hi,O⟩:=J e;have n:am D u i=some v:=by simp[am,hs,H,hi]
   exact O (I.owner hc q n j g hb).2
  ·rw[(eQ G).1]at hv;obtain⟨i,hi⟩:=En hv;have n:am D u i=some v:=by simp[am,hs,G,hi]
   exact e (I.owner hc q n j g hb).1
 cases s with
 |one x=>exact a hv (y v hv) (home _ rfl)
 |agg x=>exact a hv (y v hv) (home _ rfl)
 |box Q x=>exact a hv (y v hv) (home _ rfl)
 |tup rs =>
  refine a hv (y v hv) fun j=>?_
  have R:b∈ownBl (.tup rs:DSl):=by simp only[af,Eq]at hv;obtain⟨p,S,hv⟩:=hv;simp only[ownBl,Eq];exact⟨p,S,v,hv,by simp[ownR,j,hb]⟩
  by_cases e:u=h
  ·subst e;rw[hs]at l;cases l;simp[am,hs,aD]at hc
  ·exact I.apart e hs l R (C q b g)
 |im k Q ts off =>
  have o:iE cx D k Q.1 ts:=y;cases k with
  |own=>exact o
  |far=>exact Cx.far_not (o.2 v hv b hb) m
  |lent X Y L =>obtain⟨t',M,N,V,g4⟩:=o;obtain⟨rfl,rfl⟩:=I.owner hc q M N g (g4 v hv b hb);exact A (.inl ⟨L,Q,ts,off,rfl⟩)
 |fni f caps =>simp only[af,Eq]at hv;obtain⟨p,S,hv⟩:=hv;exact Cx.far_not ((y p S).2 v hv b hb) m
 |any=>simp[af]at hv
 |al=>simp[af]at hv
 |pe=>simp[af]at hv
 |pb=>simp[af]at hv
 |clo=>simp[af]at hv
theorem eZ {h c:Nat}{s:DSl}(hs:¬jP h c s):∀a d z r,(.s (.lent h c a) d z r:DT)∉rootsO s :=
 fun a d z r b=>hs (.inr ⟨a,d,z,r,b⟩)
theorem Inv.upd {cx:Cx}{D D':DSt}{P P':List (DT×Value)}{tm:Array Value}{w w':World}(I:Inv cx D P tm w){h c:Nat}{t t':DT}(e:c7 D h c t'=some D')
  (U:AU cx D P P' w w' h c t t'):Inv cx D' P' tm w':=by
 obtain⟨F,cs,hs0,m,rfl⟩:=qQ e;have Q:=U.at_;have hct:cs[c]?=some t:=by have:=U.at_;simp only[am,hs0,Eg,m]at this;exact this
 have H0:(cs.set c t').length=cs.length:=by simp
 have K:h<D.length:=by
  rcases Em h D.length with g|g
  ·exact g
  ·rw[Ek g]at hs0;cases hs0
 have A:c<cs.length:=by
  rcases Em c cs.length with g|g
  ·exact g
  ·rw[Ek g]at hct;cases hct
 have C:=nD m H0;have G6:=Ef hs0;have l:∀q o,¬(q=h∧o=c)→am (D.set h (setCells (cs.set c t') F)) q o=am D q o:=by
  intro q o G8;by_cases e:q=h
  ·subst e;have H1:o≠c:=fun g=>G8 ⟨rfl,g⟩
   unfold am;rw[Ep K,hs0];simp only[Eg,C,m];rw[Es (fun g=>H1 g.symm)]
  ·exact gw e
 have O:am (D.set h (setCells (cs.set c t') F)) h c=some t':=by unfold am;rw[Ep K];simp only[Eg,C];rw[Ep A]
 have G7:∀b,aO (D.set h (setCells (cs.set c t') F)) b+(ownR t).count b=aO D b+(ownR t').count b:=by
  intro b;have h1:=aV ownBl (setCells (cs.set c t') F) b D h F hs0;have h2:=iU m b;have h3:=iU C b;have h4:=aV ownR t' b cs c t hct;have h5:lN b (setCells (cs.set c t') F)=lN b F:=by cases F<;>rfl
  rw[h5]at h3;unfold aO;omega
 have W:∀(u:Nat)(s:DSl),D[u]?=some s→¬jP h c s:=fun u s hs=>U.hides s (Ef hs)
 have G9:∀b∈bl t,cx.may b:=by intro b hb;obtain⟨sh,J,R,Z,H3,g4⟩:=be Q;exact(I.bnd b (by have:=br R (g4 U.own b hb);omega)).1
 have L:∀(u:Nat)(Y:Nat×Nat)(ts:List DT),D[u]?=some (.box Y ts)→Y.1∉bl t:=by
  intro u Y ts hb V;obtain⟨sh,J,R,Z,H3,g4⟩:=be Q;by_cases e:u=h
  ·subst e;rw[hs0]at hb;cases hb;cases m;have h1:=I.once Y.1;have h2:(ownBl (.box Y cs:DSl)).count Y.1=1+(cs.flatMap ownR).count Y.1:=by simp[ownBl,Gl]
   have h3:=aV ownBl (Sl.any:DSl) Y.1 D u _ hs0;have h0:(ownBl (Sl.any:DSl)).count Y.1=0:=rfl;have h4:0<(cs.flatMap ownR).count Y.1:=Ew.2 (Eq.2 ⟨t,Ef hct,by simp[ownR,U.own,V]⟩);unfold aO at h1;omega
  ·exact I.apart e hb J (by simp[ownBl]) (g4 U.own _ V)
 have fr:∀{v:DT},(∀b∈bl v,b∈bl t→False)→∀b∈bl v,b<w.heap.size→w'.heap[b]?=w.heap[b]?:=fun h b hb K=>U.same b K fun B=>h b hb B
 have lies:∀{b:Nat×Nat}{ts:List DT},b.1∉bl t→Lies w b ts→Lies w' b ts:=by rintro b ts hb ⟨o,e',f,h1,h2⟩;exact⟨o,e',f,by rw[U.same _ (cQ h1) hb];exact h1,h2⟩
 refine⟨by have:=I.size;simpa using this,?_,?_,?_,U.pend,?_,?_,?_⟩
 ·intro u s hs;have vs:∀(s:DSl),s∈D→∀y,VS D s y→VS (D.set h (setCells (cs.set c t') F)) s y:=by
   intro s H4 y hv;have nd:∀q o st d z n,jg q o st s→cn D q o st d z n→cn (D.set h (setCells (cs.set c t') F)) q o st d z n:=by
    intro q o st d z n hsp hn;by_cases e:q=h∧o=c
    ·obtain⟨rfl,rfl⟩:=e;obtain⟨t1,G,M,k3⟩:=hn;rw[Q]at G;cases G;obtain⟨J,R⟩:=U.speak s H4 st hsp;exact⟨t',O,J,R d z n k3⟩
    ·unfold cn;rw[l q o e];exact hn
   have bx:∀(q:Nat)(b:Nat×Nat)(ts:List DT),D[q]?=some (.box b ts)→∃ts',(D.set h (setCells (cs.set c t') F))[q]?=some (.box b ts'):=by
    intro q b ts hb;by_cases e:q=h
    ·subst e;rw[hs0]at hb;cases hb;exact⟨_,by rw[Ep K];rfl⟩
    ·exact⟨ts,by rw[Es (fun g=>e g.symm)];exact hb⟩
   cases s with
   |al q o st lo len =>obtain⟨d,z,n,a,G,M⟩:=hv;exact⟨d,z,n,a,nd q o st d z n ⟨rfl,rfl,rfl⟩ G,M⟩
   |pe q o st i off =>obtain⟨d,z,n,G,M⟩:=hv;exact⟨d,z,n,nd q o st d z n ⟨rfl,rfl,rfl⟩ G,M⟩
   |pb q off =>obtain⟨b,ts,G,M⟩:=hv;obtain⟨ts',k3⟩:=bx _ _ _ G;exact⟨b,ts',k3,M⟩
   |clo f hs =>obtain⟨bs,G,M,k3⟩:=hv;exact⟨bs,G,fun i h b hi hb=>by obtain⟨ts,k4⟩:=M i h b hi hb;exact bx _ _ _ k4,k3⟩
   |_=>exact hv
  by_cases eu:u=h
  ·subst eu;rw[Ep K]at hs;cases hs;have hv:=I.val u F hs0;have cells:∀ys:List Value,VCells cs ys→VCells (cs.set c t') ys:=by
    rintro ys ⟨G,M⟩;refine⟨by simpa using G,fun i v y hi hy=>?_⟩;by_cases S:i=c
    ·subst S;rw[Ep A]at hi;cases hi;exact U.val y (M i t y hct hy)
    ·rw[Es (fun g=>S g.symm)]at hi;exact M i v y hi hy
   cases F with
   |one x =>
    cases m;have:c=0:=by simp at A;exact A
    subst this;simp at hct;subst hct;exact U.val _ hv
   |agg ts =>cases m;obtain⟨ys,G,M⟩:=hv;exact⟨ys,G,cells _ M⟩
   |box b ts=>exact hv
   |_=>cases m
  ·rw[Es (fun g=>eu g.symm)]at hs;exact vs s (Ef hs) _ (I.val u s hs)
 ·intro s hs;obtain⟨u,hu⟩:=En hs;by_cases eu:u=h
  ·subst eu;rw[Ep K]at hu;cases hu;have V:=I.mem F G6;have hr:=eQ m;have G4:=eQ C;have X:∀i v,cs[i]?=some v→i≠c→∀b∈bl v,b∈bl t→False:=by intro i v hi H5 b hb B;exact I.root_out Q U.own hs0 (W _ _ hs0) (v:=v) (by rw[hr.1];exact Ef hi) (fun _=>⟨i,cs,m,hi,H5⟩) hb B
   refine⟨?_,?_,?_⟩
   ·intro v hv;rw[G4.1]at hv;obtain⟨i,hi⟩:=En hv;by_cases S:i=c
    ·subst S;rw[Ep A]at hi;cases hi;exact U.holds
    ·rw[Es (fun g=>S g.symm)]at hi;exact(V.1 v (by rw[hr.1];exact Ef hi)).frame (fr (X i v hi S))
   ·intro v hv ho;rw[G4.2]at hv;obtain⟨i,hi⟩:=En hv;by_cases S:i=c
    ·subst S;rw[Ep A]at hi;cases hi;exact U.ownT ho
    ·rw[Es (fun g=>S g.symm)]at hi;exact(V.2.1 v (by rw[hr.2];exact Ef hi) ho).frame (fr (X i v hi S))
   ·cases F with
    |box b ts =>
     cases m;have hb:=L u b _ hs0;obtain⟨G,M⟩:=V.2.2;refine⟨?_,?_⟩
     ·obtain⟨o,e',f,J,R⟩:=lies hb G;refine⟨o,e',f,J,fun j v hj=>?_⟩;by_cases ej:j=c
      ·subst ej;rw[Ep A]at hj;cases hj;obtain⟨y,Z,g4⟩:=R j t hct;exact⟨y,Z,U.val y g4⟩
      ·rw[Es (fun g=>ej g.symm)]at hj;exact R j v hj
     ·intro o e' lo hi J;rw[U.same _ G.lt hb]at J;simpa using M o e' lo hi J
    |one x=>trivial
    |agg x=>trivial
    |_=>cases m
  ·rw[Es (fun g=>eu g.symm)]at hu;have V:=I.mem s (Ef hu);have X:∀v∈af s,∀b∈bl v,b∈bl t→False:=fun v hv b hb B =>I.root_out Q U.own hu (W _ _ hu) hv (fun g=>absurd g eu) hb B
   refine⟨fun v hv=>(V.1 v hv).frame (fr (X v hv)),fun v hv ho=>?_,?_⟩
   ·have H6:v∈af s:=by cases s<;>simp_all[rootsO,af]
    exact(V.2.1 v hv ho).frame (fr (X v H6))
   ·have H:=I.kind s (Ef hu);cases s with
    |box b ts =>have hb:=L u b _ hu;obtain⟨G,M⟩:=V.2.2;exact⟨lies hb G,fun o e' lo hi J=>by rw[U.same _ G.lt hb]at J;exact M o e' lo hi J⟩
    |im k b ts off =>
     refine lies ?_ V.2.2;intro B;cases k with
     |own=>exact H
     |far=>exact Cx.far_not H.1 (G9 _ B)
     |lent q o N =>obtain⟨t1,J,R,Z,g4⟩:=H;obtain⟨rfl,rfl⟩:=I.owner Q U.own J R B Z;exact W _ _ hu (.inl ⟨N,b,ts,off,rfl⟩)
    |fni f caps=>exact fun p hp=>lies (fun B=>Cx.far_not (H p hp).1 (G9 _ B)) (V.2.2 p hp)
    |_=>trivial
 ·intro s hs;obtain⟨u,hu⟩:=En hs;have kt:∀v:DT,(∀N d z r,v ≠ .s (.lent h c N) d z r)→aS cx D v→aS cx (D.set h (setCells (cs.set c t') F)) v:=by
   intro v G8 H;cases v with
   |v x=>trivial
   |any=>trivial
   |s k d z r =>
    cases k with
    |own=>trivial
    |far=>exact H
    |lent q o N =>obtain⟨t1,J,R,Z⟩:=H;refine⟨t1,?_,R,Z⟩;rw[l q o (by rintro⟨rfl,rfl⟩;exact G8 N d z r rfl)];exact J
  by_cases eu:u=h
  ·subst eu;rw[Ep K]at hu;cases hu;have H:=I.kind F G6;have hr:=eQ m;have G4:=eQ C;have all:∀v∈cs.set c t',aS cx (D.set u (setCells (cs.set c t') F)) v:=by
    intro v hv;obtain⟨i,hi⟩:=En hv;by_cases S:i=c
    ·subst S;rw[Ep A]at hi;cases hi;rcases U.kind with g|g
     ·cases t' with
      |v x=>trivial
      |any=>trivial
      |s k d z r=>cases k<;>first|trivial|(simp[T.isOwn]at g)
     ·rw[g];trivial
    ·rw[Es (fun g=>S g.symm)]at hi;have G5:v∈af F:=by rw[hr.1];exact Ef hi
     refine kt v (fun N d z r g=>eZ (W _ _ hs0) N d z r (by rw[hr.2, ←hr.1];exact g ▸ G5)) ?_;cases F with
     |one x=>exact H v G5
     |agg x=>exact H v G5
     |box b x=>exact H v G5
     |_=>cases m
   cases F with
   |one x =>intro v hv;exact all v (by rw[←G4.1];exact hv)
   |agg x=>exact all
   |box b x=>exact all
   |_=>cases m
  ·rw[Es (fun g=>eu g.symm)]at hu;have H:=I.kind s (Ef hu);have hh:=W _ _ hu;cases s with
   |im k b ts off =>
    cases k with
    |own=>exact H
    |far=>exact H
    |lent q o N =>obtain⟨t1,J,R,Z⟩:=H;refine⟨t1,?_,R,Z⟩;rw[l q o (by rintro⟨rfl,rfl⟩;exact hh (.inl ⟨N,b,ts,off,rfl⟩))];exact J
   |fni f caps=>exact H
   |any=>exact fun v hv=>by simp[af]at hv
   |al=>exact fun v hv=>by simp[af]at hv
   |pe=>exact fun v hv=>by simp[af]at hv
   |pb=>exact fun v hv=>by simp[af]at hv
   |clo=>exact fun v hv=>by simp[af]at hv
   |one x=>exact fun v hv=>kt v (fun N d z r g=>eZ hh N d z r (g ▸ hv)) (H v hv)
   |agg x=>exact fun v hv=>kt v (fun N d z r g=>eZ hh N d z r (g ▸ hv)) (H v hv)
   |box b x=>exact fun v hv=>kt v (fun N d z r g=>eZ hh N d z r (g ▸ hv)) (H v hv)
   |tup x=>exact fun v hv=>kt v (fun N d z r g=>eZ hh N d z r (g ▸ hv)) (H v hv)
 ·intro b;have h1:=G7 b;have h2:=U.cnt b;have h3:=I.once b;by_cases hb:b<w.heap.size
  ·rw[Ej hb]at h2;omega
  ·rw[Eu hb]at h2;have:aO D b+az P b=0:=by
    rcases E0 (aO D b+az P b)with g|g
    ·exact g
    ·exact absurd (I.bnd b g).2 hb
   omega
 ·intro b H7;have h1:=G7 b;have h2:=U.cnt b;by_cases hb:b<w.heap.size
  ·rw[Ej hb]at h2;exact⟨(I.bnd b (by omega)).1,EU hb U.size⟩
  ·have:aO D b+az P b=0:=by
    rcases E0 (aO D b+az P b)with g|g
    ·exact g
    ·exact absurd (I.bnd b g).2 hb
   exact⟨.inl (E7 I.frame.size (Nat.le_of_not_lt hb)),U.new b (Nat.le_of_not_lt hb) (by omega)⟩
 ·refine⟨U.os.trans I.frame.os,U.tape.trans I.frame.tape,U.output.trans I.frame.output,E7 I.frame.size U.size,fun b hb=>?_⟩;rw[U.same b (EU hb.1 I.frame.size) (fun B=>Cx.keep_not hb (G9 b B))];exact I.frame.same b hb
theorem lr {rows:List (List DT)}{i c:Nat}{row:List DT}{u u':DT}(hi:rows[i]?=some row)(a:row[c]?=some u)(b:Nat):
  ((rows.set i (row.set c u')).flatMap fun x=>x.flatMap bl).count b+(bl u).count b=(rows.flatMap fun x=>x.flatMap bl).count b+(bl u').count b:=by
 have d:=aV (fun x:List DT=>x.flatMap bl) (row.set c u') b rows i row hi;have e:=aV bl u' b row c u a;omega
theorem sq {k:Kd}{d:Dec}{z:Nat}{rows:List (List DT)}{i c:Nat}{row:List DT}{u:DT}(hi:rows[i]?=some row)(a:row[c]?=some u)(b:Nat):
  (bl u).count b+(if d.nil then 0 else [d.b].count b)≤(bl (.s k d z rows)).count b:=by
 have h:=lr (u' := .any) hi a b;rw[bR,ED];have:(bl (.any:DT)).count b=0:=rfl;split<;>simp<;>omega
theorem xk {rows:List (List DT)}{i c f j:Nat}{row a:List DT}{u v:DT}{b:Nat}(m:(rows.flatMap fun x=>x.flatMap bl).count b≤1)
  (hi:rows[i]?=some row) (n:row[c]?=some u) (d:rows[f]?=some a) (hj':a[j]?=some v) (k:¬(f=i∧j=c)) (o:b∈bl u) (hv:b∈bl v):False:=by
 have h:=lr (u':=(.any:DT)) hi n b;have p:(bl (.any:DT)).count b=0:=rfl;have q:0<(bl u).count b:=Ew.2 o;have l:i<rows.length:=by
  rcases Em i rows.length with g|g
  ·exact g
  ·rw[Ek g]at hi;cases hi
 have r:0<((rows.set i (row.set c .any)).flatMap fun x=>x.flatMap bl).count b:=by
  refine Ew.2 (Eq.2 ?_);by_cases e:f=i
  ·subst e;rw[hi]at d;cases d;have hc:c≠j:=fun g=>k ⟨rfl,g.symm⟩
   refine⟨row.set c .any,Ef (i:=f) (by rw[Ep l]),Eq.2 ⟨v,Ef (i:=j) (by rw[Es hc];exact hj'),hv⟩⟩
  ·exact⟨a,Ef (i:=f) (by rw[Es (fun g=>e g.symm)];exact d),Eq.2 ⟨v,Ef hj',hv⟩⟩
 omega
structure NodeOk (w w':World)(n n':DT):Prop where
 holds:Holds w' n'
 own:OwnT w' n'
 val:∀y,VT n y→VT n' y
 same:∀b,b<w.heap.size→b∉bl n→w'.heap[b]?=w.heap[b]?
theorem qV {f:DT→Option DT}{w w':World}{n n':DT}(N:NodeOk w w' n n')(hf:f n=some n'):∀(st:List (Nat×Nat)){t t':DT},Holds w t→OwnT w t→(∀b,(bl t).count b≤1) →
  getN t st=some n→cV f t st=some t' →
  NodeOk w w' t t'∧(∀b,(bl t').count b+(bl n).count b=(bl t).count b+(bl n').count b)∧(st≠[]→t'.isOwn=true∧∀d z m,fY t [] d z m→fY t' [] d z m)∧getN t' st=some n'
 |[],t,t',hh,ho,X,H,M=>by cases H;simp only[cV,hf]at M;cases M;exact⟨N,fun b=>Gl _ _,fun h=>absurd rfl h,rfl⟩
 |(i,c)::st,t,t',hh,ho,X,H,M=>by
  cases t with
  |v x=>simp[getN]at H
  |any=>simp[getN]at H
  |s k d z rows =>
   simp only[getN,Eh]at H;obtain⟨u,⟨row,hi,G⟩,H⟩:=H;simp only[cV,hi,G,Eg,Ei]at M;obtain⟨u',M,rfl⟩:=M;have I:i<rows.length:=by
    rcases Em i rows.length with g|g
    ·exact g
    ·rw[Ek g]at hi;cases hi
   have J:c<row.length:=by
    rcases Em c row.length with g|g
    ·exact g
    ·rw[Ek g]at G;cases G
   cases hh with
   |e=>simp at hi
   |s _ _ _ _ C hsp c0 e0 f0 hb hcap hz hv hh =>
    cases ho with
    |nil=>simp at hi
    |s _ _ _ Y hsp c1 e1 Z G4 R O hroom G5 S =>
     have U:∀b,(bl u).count b+[d.b].count b≤1:=by intro b;have:=sq (k := .own) (d:=d) (z:=z) hi G b;rw[C]at this;simp only[EE,E3]at this;exact E7 this (X b)
     obtain⟨N',G6,H0,G7⟩:=qV N hf st (hh i row c u hi G) (S i row c u hi G) (fun b=>by have:=U b;omega) H M;have D:∀b,b∈bl n→b∈bl u:=lM st H;have V:d.b∉bl n:=by intro hm;have h2:=U d.b;have h3:0<(bl u).count d.b:=Ew.2 (D _ hm);simp at h2;omega
     have G8:w'.heap[d.b]?=some (.cells c0 e0 f0):=by rw[N.same _ (cQ hb) V];exact hb
     have W:∀b,(rows.flatMap fun x=>x.flatMap bl).count b≤1:=by intro b;have:=X b;rw[bR,ED]at this;exact E7 (Nat.le_add_left _ _) this
     have K:∀(p:Nat)(a:List DT),(rows.set i (row.set c u'))[p]?=some a→(p=i∧a=row.set c u')∨(p≠i∧rows[p]?=some a):=by
      intro p a o;by_cases e:p=i
      ·subst e;rw[Ep I]at o;cases o;exact .inl ⟨rfl,rfl⟩
      ·rw[Es (fun g=>e g.symm)]at o;exact .inr ⟨e,o⟩
     have r:∀(p:Nat)(a:List DT)(j:Nat)(v:DT),(rows.set i (row.set c u'))[p]?=some a→a[j]?=some v →
       (p=i∧j=c∧v=u')∨(¬(p=i∧j=c)∧∃l,rows[p]?=some l∧l[j]?=some v):=by
      intro p a j v o q;rcases K p a o with⟨rfl,rfl⟩|⟨e,o⟩
      ·by_cases ej:j=c
       ·subst ej;rw[Ep J]at q;cases q;exact .inl ⟨rfl,rfl,rfl⟩
       ·rw[Es (fun g=>ej g.symm)]at q;exact .inr ⟨fun g=>ej g.2,row,hi,q⟩
      ·exact .inr ⟨fun g=>e g.1,a,o,q⟩
     have L:∀(p:Nat)(l:List DT)(j:Nat)(v:DT),¬(p=i∧j=c)→rows[p]?=some l→l[j]?=some v→∀b∈bl v,b<w.heap.size→w'.heap[b]?=w.heap[b]?:=by intro p l j v F o q b hb P;exact N.same b P fun Q=>xk (W b) hi G o q F (D b Q) hb
     refine⟨⟨?_,?_,?_,?_⟩,?_,?_,?_⟩
     ·refine .s _ _ _ _ C hsp c0 e0 f0 G8 (by simpa using hcap) ?_ ?_ ?_
      ·intro p a o;rcases K p a o with⟨rfl,rfl⟩|⟨e,o⟩
       ·simpa using hz p row hi
       ·exact hz p a o
      ·intro p a j v o q;rcases r p a j v o q with⟨rfl,rfl,rfl⟩|⟨_,l,A,B⟩
       ·obtain⟨y,A,B⟩:=hv p row j u hi G;exact⟨y,A,N'.val y B⟩
       ·exact hv p l j v A B
      ·intro p a j v o q;rcases r p a j v o q with⟨rfl,rfl,rfl⟩|⟨F,l,A,B⟩
       ·exact N'.holds
       ·exact(hh p l j v A B).frame (L p l j v F A B)
     ·refine .s _ _ _ C hsp c1 e1 Z G4 (by rw[N.same _ (cQ R) V];exact R) (by simpa using O) hroom G5 ?_;intro p a j v o q;rcases r p a j v o q with⟨rfl,rfl,rfl⟩|⟨F,l,A,B⟩
      ·exact N'.own
      ·exact(S p l j v A B).frame (L p l j v F A B)
     ·intro y hy;simpa[VT]using hy
     ·intro b P hb;exact N.same b P fun Q=>hb (fo hi G (D b Q))
     ·intro b;have A:=lr (u':=u') hi G b;have B:=G6 b;rw[bR,bR,ED,ED];omega
     ·intro _;refine⟨rfl,?_⟩;rintro d1 z1 m ⟨k1,G9,A,B⟩;cases A;exact⟨_,_,rfl,by simpa using B⟩
     ·simp only[getN];rw[Ep I];simp only[Eg];rw[Ep J];exact G7
structure AT (cx:Cx)(D:DSt)(P P':List (DT×Value))(w w':World)(h:Nat)(b:Nat×Nat)(ts ts':List DT):Prop where
 at_:D[h]?=some (.box b ts)
 len:ts'.length=ts.length
 lies:Lies w' b ts'
 free:Free w' b ts.length
 holds:∀t∈ts',Holds w' t
 ownT:∀t∈ts',t.isOwn=true→OwnT w' t
 kind:∀t∈ts',aS cx (D.set h (.box b ts')) t
 cnt:∀x,(ts'.flatMap ownR).count x+az P' x≤(ts.flatMap ownR).count x+az P x
 keep:∀(c:Nat)(t:DT),ts[c]?=some t→t.isOwn=true→ts'[c]?=some t∨((∀s∈D,¬jP h c s)∧∀s∈D,∀st,¬jg h c st s)
 size:w.heap.size≤w'.heap.size
 same:∀x,x<w.heap.size→x≠b.1→w'.heap[x]?=w.heap[x]?
 os:w'.os=w.os
 tape:w'.tape=w.tape
 output:w'.output=w.output
 pend:∀p∈P',VT p.1 p.2∧Holds w' p.1∧(p.1.isOwn=true→OwnT w' p.1)∧(p.1.isOwn=false→∀x∈bl p.1,cx.far x)
theorem Inv.box_tree {cx:Cx}{D:DSt}{P:List (DT×Value)}{tm:Array Value}{w:World}(I:Inv cx D P tm w){h:Nat}{b:Nat×Nat}{ts:List DT}(hb:D[h]?=some (.box b ts))
  {a c:Nat} {t:DT} (hc:am D a c=some t) (f:t.isOwn=true):b.1∉bl t:=by
 intro g;obtain⟨s,d,l,m,i,j⟩:=be hc;by_cases e:a=h
 ·subst e;rw[hb]at d;cases d;simp only[am,hb,Eg,aD]at hc;have k:=I.once b.1;have n:(ownBl (.box b ts:DSl)).count b.1=1+(ts.flatMap ownR).count b.1:=by simp[ownBl,Gl]
  have o:=aV ownBl (Sl.any:DSl) b.1 D a _ hb;have p:(ownBl (Sl.any:DSl)).count b.1=0:=rfl;have q:0<(ts.flatMap ownR).count b.1:=Ew.2 (Eq.2 ⟨t,Ef hc,by simp[ownR,f,g]⟩);unfold aO at k;omega
 ·exact I.apart e d hb (j f _ g) (by simp[ownBl])
theorem Inv.box_may {cx:Cx}{D:DSt}{P:List (DT×Value)}{tm:Array Value}{w:World}(I:Inv cx D P tm w){h:Nat}{b:Nat×Nat}{ts:List DT}(hb:D[h]?=some (.box b ts)):cx.may b.1∧b.1<w.heap.size :=
 I.bnd b.1 (by have:=br (b:=b.1) (Ef hb) (by simp[ownBl]);omega)
theorem Inv.box_root {cx:Cx}{D:DSt}{P:List (DT×Value)}{tm:Array Value}{w:World}(I:Inv cx D P tm w){h:Nat}{b:Nat×Nat}{ts:List DT}(hb:D[h]?=some (.box b ts))
  {u:Nat} {s:DSl} (hs:D[u]?=some s) {v:DT} (hv:v∈af s):b.1∉bl v:=by
 intro j;have c:=(I.box_may hb).1;have m:=I.kind s (Ef hs);have lent:∀n o,(∃t',am D n o=some t'∧t'.isOwn=true∧b.1∈bl t')→False:=fun n o ⟨t',q,t,B⟩=>I.box_tree hb q t B
 have a:aS cx D v→(v.isOwn=true→False)→False:=by
  intro y g;cases v with
  |v x=>simp[bl]at j
  |any=>simp[bl]at j
  |s k d z r =>
   cases k with
   |far=>exact Cx.far_not (y _ j) c
   |lent n o H =>obtain⟨t',q,t,B,J⟩:=y;exact lent n o ⟨t',q,t,B _ j⟩
   |own=>exact g rfl
 have home:∀cs,aD s=some cs→v.isOwn=true→False:=by intro cs A g;rw[(eQ A).1]at hv;obtain⟨i,hi⟩:=En hv;exact lent u i ⟨v,by simp[am,hs,A,hi],g,j⟩
 cases s with
 |one x=>exact a (m v hv) (home _ rfl)
 |agg x=>exact a (m v hv) (home _ rfl)
 |box G x=>exact a (m v hv) (home _ rfl)
 |tup rs =>
  refine a (m v hv) fun g=>?_
  have C:b.1∈ownBl (.tup rs:DSl):=by simp only[af,Eq]at hv;obtain⟨p,F,hv⟩:=hv;simp only[ownBl,Eq];exact⟨p,F,v,hv,by simp[ownR,g,j]⟩
  by_cases e:u=h
  ·subst e;rw[hs]at hb;cases hb
  ·exact I.apart e hs hb C (by simp[ownBl])
 |im k G ts off =>
  have l:iE cx D k G.1 ts:=m;cases k with
  |own=>exact l
  |far=>exact Cx.far_not (l.2 v hv _ j) c
  |lent n o H =>obtain⟨t',q,t,B,K⟩:=l;exact lent n o ⟨t',q,t,K v hv _ j⟩
 |fni f caps =>simp only[af,Eq]at hv;obtain⟨p,F,hv⟩:=hv;exact Cx.far_not ((m p F).2 v hv _ j) c
 |any=>simp[af]at hv
 |al=>simp[af]at hv
 |pe=>simp[af]at hv
 |pb=>simp[af]at hv
 |clo=>simp[af]at hv
theorem Inv.boxSet {cx:Cx}{D:DSt}{P P':List (DT×Value)}{tm:Array Value}{w w':World}(I:Inv cx D P tm w){h:Nat}{b:Nat×Nat}{ts ts':List DT}(B:AT cx D P P' w w' h b ts ts'):
  Inv cx (D.set h (.box b ts')) P' tm w':=by
 have hb:=B.at_;have A:h<D.length:=by
  rcases Em h D.length with g|g
  ·exact g
  ·rw[Ek g]at hb;cases hb
 have m:∀j o,j≠h→am (D.set h (.box b ts')) j o=am D j o:=fun j o e=>gw e
 have q:∀c,am (D.set h (.box b ts')) h c=ts'[c]?:=by intro c;unfold am;rw[Ep A];rfl
 have y:∀c,am D h c=ts[c]?:=by intro c;unfold am;rw[hb];rfl
 have W:∀x,aO (D.set h (.box b ts')) x+(ts.flatMap ownR).count x=aO D x+(ts'.flatMap ownR).count x:=by intro x;have X:=aV ownBl (.box b ts') x D h _ hb;simp only[ownBl,Fu]at X;unfold aO;omega
 have le:∀x,aO (D.set h (.box b ts')) x+az P' x≤aO D x+az P x:=by intro x;have X:=W x;have h2:=B.cnt x;omega
 have fr:∀{u:Nat}{s:DSl}{v:DT},D[u]?=some s→v∈af s→∀x∈bl v,x<w.heap.size→w'.heap[x]?=w.heap[x]?:=by intro u s v hs hv x Q A;refine B.same x A ?_;rintro rfl;exact I.box_root hb hs hv Q
 have lies:∀{b':Nat×Nat}{l:List DT},b'.1≠b.1→Lies w b' l→Lies w' b' l:=by rintro b' l K ⟨o,e',f,X,h2⟩;exact⟨o,e',f,by rw[B.same _ (cQ X) K];exact X,h2⟩
 refine⟨by have:=I.size;simpa using this,?_,?_,?_,B.pend,fun x=>E7 (le x) (I.once x),?_,?_⟩
 ·intro u s hs;by_cases L:u=h
  ·subst L;rw[Ep A]at hs;cases hs;exact I.val u _ hb
  ·rw[Es (fun g=>L g.symm)]at hs;have M:=Ef hs;have hv:=I.val u s hs;have nd:∀j o st d z n,jg j o st s→cn D j o st d z n→cn (D.set h (.box b ts')) j o st d z n:=by
    rintro j o st d z n hsp ⟨t,C,F,S⟩;by_cases e:j=h
    ·subst e;rw[y]at C;rcases B.keep o t C F with g|⟨_,g⟩
     ·exact⟨t,by rw[q];exact g,F,S⟩
     ·exact absurd hsp (g s M st)
    ·exact⟨t,by rw[m j o e];exact C,F,S⟩
   have bx:∀(j:Nat)(J:Nat×Nat)(l:List DT),D[j]?=some (.box J l)→∃l',(D.set h (.box b ts'))[j]?=some (.box J l'):=by
    intro j J l R;by_cases e:j=h
    ·subst e;rw[hb]at R;cases R;exact⟨ts',Ep A⟩
    ·exact⟨l,by rw[Es (fun g=>e g.symm)];exact R⟩
   cases s with
   |al j c st lo len =>obtain⟨d,z,n,a,C,F⟩:=hv;exact⟨d,z,n,a,nd j c st d z n ⟨rfl,rfl,rfl⟩ C,F⟩
   |pe j c st i off =>obtain⟨d,z,n,C,F⟩:=hv;exact⟨d,z,n,nd j c st d z n ⟨rfl,rfl,rfl⟩ C,F⟩
   |pb j off =>obtain⟨J,l,C,F⟩:=hv;obtain⟨l',S⟩:=bx _ _ _ C;exact⟨J,l',S,F⟩
   |clo f hs =>obtain⟨bs,C,F,S⟩:=hv;exact⟨bs,C,fun i h b hi hb=>by obtain⟨l,k4⟩:=F i h b hi hb;exact bx _ _ _ k4,S⟩
   |_=>exact hv
 ·intro s hs;obtain⟨u,hu⟩:=En hs;by_cases L:u=h
  ·subst L;rw[Ep A]at hu;cases hu;exact⟨B.holds,B.ownT,B.lies,by rw[B.len];exact B.free⟩
  ·rw[Es (fun g=>L g.symm)]at hu;have Y:=I.mem s (Ef hu);have G:=I.kind s (Ef hu);refine⟨fun v hv=>(Y.1 v hv).frame (fr hu hv),fun v hv ho=>?_,?_⟩
   ·have G4:v∈af s:=by cases s<;>simp_all[rootsO,af]
    exact(Y.2.1 v hv ho).frame (fr hu G4)
   ·cases s with
    |box J l =>
     have K:J.1≠b.1:=fun g=>I.apart L hu hb (b:=b.1) (by simp[ownBl,g]) (by simp[ownBl])
     obtain⟨C,F⟩:=Y.2.2;exact⟨lies K C,fun o e' lo hi H=>by rw[B.same _ C.lt K]at H;exact F o e' lo hi H⟩
    |im k J l off =>
     refine lies ?_ Y.2.2;intro N;cases k with
     |own=>exact G
     |far=>exact Cx.far_not G.1 (by rw[N];exact(I.box_may hb).1)
     |lent j o fl =>obtain⟨U,H,O,V,g4⟩:=G;rw[N]at V;exact I.box_tree hb H O V
    |fni f caps=>exact fun p hp=>lies (fun N=>Cx.far_not (G p hp).1 (by rw[N];exact(I.box_may hb).1)) (Y.2.2 p hp)
    |_=>trivial
 ·intro s hs;obtain⟨u,hu⟩:=En hs;by_cases L:u=h
  ·subst L;rw[Ep A]at hu;cases hu;exact B.kind
  ·rw[Es (fun g=>L g.symm)]at hu;have M:=Ef hu;have G:=I.kind s M;have cc:∀j o t,jP j o s→am D j o=some t→t.isOwn=true→am (D.set h (.box b ts')) j o=some t:=by
    intro j o t hn H O;by_cases e:j=h
    ·subst e;rw[y]at H;rcases B.keep o t H O with g|⟨g,_⟩
     ·rw[q];exact g
     ·exact absurd hn (g s M)
    ·rw[m j o e];exact H
   have kt:∀v∈rootsO s,aS cx D v→aS cx (D.set h (.box b ts')) v:=by
    intro v hv Z;cases v with
    |v x=>trivial
    |any=>trivial
    |s k d z r =>
     cases k with
     |own=>trivial
     |far=>exact Z
     |lent j o fl =>obtain⟨U,H,O,V⟩:=Z;exact⟨U,cc j o U (.inr ⟨fl,d,z,r,hv⟩) H O,O,V⟩
   cases s with
   |im k J l off =>
    cases k with
    |own=>exact G
    |far=>exact G
    |lent j o fl =>obtain⟨U,H,O,V⟩:=G;exact⟨U,cc j o U (.inl ⟨fl,J,l,off,rfl⟩) H O,O,V⟩
   |fni f caps=>exact G
   |any=>exact fun v hv=>by simp[af]at hv
   |al=>exact fun v hv=>by simp[af]at hv
   |pe=>exact fun v hv=>by simp[af]at hv
   |pb=>exact fun v hv=>by simp[af]at hv
   |clo=>exact fun v hv=>by simp[af]at hv
   |one x=>exact fun v hv=>kt v hv (G v hv)
   |agg x=>exact fun v hv=>kt v hv (G v hv)
   |box b x=>exact fun v hv=>kt v hv (G v hv)
   |tup x=>exact fun v hv=>kt v hv (G v hv)
 ·intro x Q;have:=I.bnd x (EU Q (le x));exact⟨this.1,EU this.2 B.size⟩
 ·refine⟨B.os.trans I.frame.os,B.tape.trans I.frame.tape,B.output.trans I.frame.output,E7 I.frame.size B.size,fun x Q=>?_⟩;rw[B.same x (EU Q.1 I.frame.size) (fun g=>Cx.keep_not Q (by rw[g];exact(I.box_may hb).1))];exact I.frame.same x Q
structure Got (cx:Cx)(D:DSt)(w:World)(P:List (DT×Value))(ts:List DT)(ys:List Value):Prop where
 v:VCells ts ys
 holds:∀t∈ts,Holds w t
 own:∀t∈ts,t.isOwn=true→OwnT w t
 kind:∀t∈ts,aS cx D t
 cnt:∀b,(ts.flatMap ownR).count b≤az P b
section
variable  {δ β : Type}
def T.noLent:T δ→Bool| .s (.lent _ _ _) _ _ _=>false|_=>true
def cellsCopy (M:Mk δ β)(D:St δ β)(x:Operand):Option (Bool×List (T δ)):=
 match opd M.nil D x with
 |some (.one t)=>some (false,[t])
 |some (.agg ts)=>some (true,ts)
 |some (.al h c st lo len)=>
  if lo=0∨0<len then
   match bC D h c st with
   |some (.s _ d z rows)=>some (false,[.s (.lent h c false) (M.win d lo z) z ((rows.drop lo).take len)])
   |_=>none
  else none
 |_=>none
def cellsTake (M:Mk δ β)(D:St δ β)(x:Operand):Option (Bool×List (T δ)×St δ β):=
 match x with
 | .tmp t =>
  match D[t]? with
  |some (.one u)=>if u.isOwn then some (false,[u],aB t D)else none
  |some (.agg ts)=>if ts.all T.noLent then some (true,ts,aB t D)else none
  |some (.al h c st lo len)=>
   if lo=0∨0<len then
    match bC D h c st with
    |some (.s .own d z rows)=>(bU (fun _=>some .any) (St.dead (bM h c) (qHC h c) D) h c st).map fun D'=>(false,[.s .own (M.win d lo z) z ((rows.drop lo).take len)],D')
    |_=>none
   else none
  |_=>none
 |_=>none
def cellsOf (M:Mk δ β)(D:St δ β)(x:Operand)(tk:Bool):Option (Bool×List (T δ)×St δ β):=if tk then cellsTake M D x else(cellsCopy M D x).map fun p=>(p.1,p.2,D)
end
def bd (g:Bool)(y:Value)(ys:List Value):Prop:=if g then y = .agg ys.toArray else ys=[y]
theorem VCells.one {t:DT}{y:Value}(h:VT t y):VCells [t] [y]:=by
 refine⟨rfl,fun i u v hi hv=>?_⟩;cases i with
 |zero=>simp at hi hv;subst hi;subst hv;exact h
 |succ i=>simp at hi
theorem pF {k:Kd}{d:Dec}{z lo len cap:Nat}{a:Option Addr}{rows:List (List DT)}(c:lo+len≤rows.length)(hcap:rows.length≤d.cap)(hs:d.sp=none)(hc:cap=d.cap-lo)
  (i:lo<d.cap→a=some ⟨d.b,d.o+lo*z,none⟩) (e:lo=0→a=if d.nil then none else some ⟨d.b,d.o,none⟩) (j:d.nil=true→rows=[]) (h:lo=0∨0<len):
  VT (.s k (mkD.win d lo z) z ((rows.drop lo).take len)) (.slice a len cap):=by
 have l:((rows.drop lo).take len).length=len:=by simp;omega
 show Value.slice a len cap = .slice (mkD.win d lo z).addr _ _;rw[Dec.addr_none (d:=mkD.win d lo z) (by simpa[mkD]using hs),l,hc];simp only[mkD];congr 1;by_cases g:lo=0
 ·rw[e g,g];simp
 ·have f:lo<d.cap:=by omega
  rw[i f];have:d.nil=false:=by
   cases hd:d.nil with
   |false=>rfl
   |true=>have:=j hd;rw[this]at c;simp at c;omega
  simp only[this,EE,E3];rw[Eu (by omega)]
theorem Holds.nilrows {w:World}{k:Kd}{d:Dec}{z:Nat}{rows:List (List DT)}(h:Holds w (.s k d z rows))(a:d.nil=true):rows=[]:=by
 cases h with
 |e=>rfl
 |s _ _ _ _ h _=>rw[a]at h;cases h
theorem Inv.cellsCopy {cx:Cx}{D:DSt}{y:List (DT×Value)}{a:Act}{w:World}(I:Inv cx D y a.tmps w){x:Operand}{g:Bool}{ts:List DT}(e:cellsCopy mkD D x=some (g,ts)):
  ∃ys,Got cx D w [] ts ys∧bd g (a.eval x) ys:=by
 unfold Am.cellsCopy at e;split at e
 ·rename_i t h;cases e;have i:=I.opd h;refine⟨[a.eval x],⟨.one i.val,fun u f=>i.mem.1 u (by simpa[af]using f),fun u f m=>i.mem.2.1 u (by simpa[rootsO]using f) m,fun u f=>i.kind u (by simpa[af]using f),fun b=>?_⟩,rfl⟩;have:=i.noown;simp only[ownBl]at this;simp[this]
 ·rename_i us h;cases e;have i:=I.opd h;obtain⟨cs,A,B⟩:=i.val;refine⟨cs.toList,⟨B,i.mem.1,i.mem.2.1,i.kind,fun b=>?_⟩,by simp[bd,A]⟩;have:=i.noown;simp only[ownBl]at this;simp[this]
 ·rename_i h c st lo len hs;split at e
  ·rename_i j;split at e
   ·rename_i k d z rows o;cases e;have i:=I.opd hs;obtain⟨L,M,n,ad,l,C,F,G,p⟩:=i.val;obtain⟨t,N,q,s,H,v,O,r,J⟩:=I.node l;simp only[bC,s,Eg]at o;rw[v]at o;cases o;refine⟨[a.eval x],⟨.one ?_,fun u f=>?_,fun u f m=>?_,fun u f=>?_,fun b=>?_⟩,rfl⟩
    ·rw[F];exact pF (by omega) r.cap J.sp rfl G p r.nilrows j
    ·simp at f;subst f;exact kX (r.win lo len (by omega))
    ·simp at f;subst f;cases m
    ·simp at f;subst f;exact⟨t,s,H,fun x K=>lM st v x (by have:=sK K;simp only[bR]at this ⊢;exact this),fun h=>by cases h⟩
    ·simp[ownR,T.isOwn]
   ·cases e
  ·cases e
 ·cases e
theorem gO {p:Nat→Nat→Bool}{q:Nat→Nat→Bool→Bool}{h c:Nat}(y:p h c=true){D:DSt}:∀s∈St.dead p q D,¬jP h c s∧((∀b,q h c b=true)→∀st,¬jg h c st s)∧((q h c true=true)→∀st,jg h c st s→st=[]):=by
 intro s hs;obtain⟨u,L,rfl⟩:=Ex.1 hs;have A:∀(v:DT) a d z r,v.dead p ≠ .s (.lent h c a) d z r:=by
  intro v a d z r;cases v with
  |v x=>simp[T.dead]
  |any=>simp[T.dead]
  |s k M N O =>
   cases k with
   |own=>simp[T.dead]
   |far=>simp[T.dead]
   |lent m n B =>
    simp only[T.dead];by_cases e:p m n=true
    ·rw[Ej e];simp
    ·rw[Eu e];intro g;cases g;exact e y
 have ts:∀(l:List DT) a d z r,(.s (.lent h c a) d z r:DT)∉l.map (T.dead p):=by intro l a d z r C;obtain⟨v,_,hv⟩:=Ex.1 C;exact A v a d z r hv
 have none:∀(s:DSl),(∀k b l off,s ≠ .im k b l off)→rootsO s=[]→¬jP h c s:=by
  rintro s F G (⟨a,b,t,o,g⟩|⟨a,d,z,r,g⟩)
  ·exact F _ _ _ _ g
  ·rw[G]at g;cases g
 cases u with
 |any=>exact⟨none _ (by simp[Sl.dead]) rfl,fun _ st g=>g.elim,fun _ st g=>g.elim⟩
 |one v=>exact⟨by rintro(⟨a,b,t,o,g⟩|⟨a,d,z,r,g⟩);(· simp[Sl.dead]at g);(· exact ts [v] a d z r g),fun _ st g=>g.elim,fun _ st g=>g.elim⟩
 |agg l=>exact⟨by rintro(⟨a,b,t,o,g⟩|⟨a,d,z,r,g⟩);(· simp[Sl.dead]at g);(· exact ts l a d z r g),fun _ st g=>g.elim,fun _ st g=>g.elim⟩
 |box b l=>exact⟨by rintro(⟨a,b,t,o,g⟩|⟨a,d,z,r,g⟩);(· simp[Sl.dead]at g);(· exact ts l a d z r g),fun _ st g=>g.elim,fun _ st g=>g.elim⟩
 |tup rs =>
  refine⟨?_,fun _ st g=>g.elim,fun _ st g=>g.elim⟩;rintro(⟨a,b,t,o,g⟩|⟨a,d,z,r,g⟩)
  ·simp[Sl.dead]at g
  ·simp only[Sl.dead,rootsO,Eq,Ex]at g;obtain⟨p,⟨H,y,rfl⟩,g⟩:=g;exact ts H.2 a d z r (by simpa using g)
 |al m n j lo len =>
  simp only[Sl.dead];by_cases e:q m n (!j.isEmpty)=true
  ·rw[Ej e];exact⟨none _ (by simp) rfl,fun _ st g=>g.elim,fun _ st g=>g.elim⟩
  ·rw[Eu e];refine⟨none _ (by simp) rfl,fun w st g=>e (by rw[g.1,g.2.1];exact w _),fun w st g=>?_⟩;rw[g.1,g.2.1]at e;rw[←g.2.2];cases j with
   |nil=>rfl
   |cons x l=>exact absurd w e
 |pe m n j i off =>
  simp only[Sl.dead];by_cases e:q m n (!j.isEmpty)=true
  ·rw[Ej e];exact⟨none _ (by simp) rfl,fun _ st g=>g.elim,fun _ st g=>g.elim⟩
  ·rw[Eu e];refine⟨none _ (by simp) rfl,fun w st g=>e (by rw[g.1,g.2.1];exact w _),fun w st g=>?_⟩;rw[g.1,g.2.1]at e;rw[←g.2.2];cases j with
   |nil=>rfl
   |cons x l=>exact absurd w e
 |pb m off=>exact⟨none _ (by simp[Sl.dead]) rfl,fun _ st g=>g.elim,fun _ st g=>g.elim⟩
 |clo f I=>exact⟨none _ (by simp[Sl.dead]) rfl,fun _ st g=>g.elim,fun _ st g=>g.elim⟩
 |fni f caps=>exact⟨none _ (by simp[Sl.dead]) rfl,fun _ st g=>g.elim,fun _ st g=>g.elim⟩
 |im k b l off =>
  simp only[Sl.dead];split
  ·rename_i m n J;by_cases e:p m n=true
   ·rw[Ej e];exact⟨none _ (by simp) rfl,fun _ st g=>g.elim,fun _ st g=>g.elim⟩
   ·rw[Eu e];refine⟨?_,fun _ st g=>g.elim,fun _ st g=>g.elim⟩;rintro(⟨a,b,t,o,g⟩|⟨a,d,z,r,g⟩)
    ·cases g;exact e y
    ·cases g
  ·rename_i K;refine⟨?_,fun _ st g=>g.elim,fun _ st g=>g.elim⟩;rintro(⟨a,b,t,o,g⟩|⟨a,d,z,r,g⟩)
   ·cases g;exact K _ _ _ rfl
   ·cases g
theorem kh {h c:Nat}{D:DSt}:∀s∈St.dead (bM h c) (qHC h c) D,¬jP h c s∧∀st,¬jg h c st s:=fun s hs =>⟨(gO (p:=bM h c) (q:=qHC h c) (by simp[bM]) s hs).1,(gO (p:=bM h c) (q:=qHC h c) (by simp[bM]) s hs).2.1 (fun b=>by simp[qHC])⟩
theorem ig:∀(ts:List DT)(ys:List Value),ts.length=ys.length→∀b,az (ts.zip ys) b=(ts.flatMap ownR).count b
 |[],_,_,b=>rfl
 |t::ts,[],h,b=>by simp at h
 |t::ts,y::ys,h,b=>by simp only[List.zip_cons_cons,fd,Ez,ED];rw[ig ts ys (by simpa using h) b]
theorem ra {α:Type}(f:α→List Nat)(b:Nat){l l':List α}(h:l.Sublist l'):(l.flatMap f).count b≤(l'.flatMap f).count b:=by
 induction h with
 |slnil=>exact EQ _
 |cons a h c=>simp only[Ez,ED];omega
 |cons_cons a h c=>simp only[Ez,ED];omega
theorem kB {k k':Kd}{d:Dec}{z:Nat}(rows:List (List DT))(l n b:Nat):(bl (.s k (mkD.win d l z) z ((rows.drop l).take n))).count b≤(bl (.s k' d z rows)).count b:=by
 rw[bR,bR,ED,ED];have c:(((rows.drop l).take n).flatMap fun x=>x.flatMap bl).count b≤(rows.flatMap fun x=>x.flatMap bl).count b:=by exact ra _ b ((List.take_sublist _ _).trans (Gd _ _))
 have a:(if(mkD.win d l z).nil=true then []else [(mkD.win d l z).b])=(if d.nil=true then []else [d.b]):=rfl;rw[a];omega
theorem OwnT.win {w:World}{d:Dec}{z:Nat}{rows:List (List DT)}(h:OwnT w (.s .own d z rows))(l n:Nat)(m:l+n≤rows.length):
  OwnT w (.s .own (mkD.win d l z) z ((rows.drop l).take n)):=by
 cases h with
 |nil _ _ f hs hc =>simp;exact .nil _ _ (by simpa[mkD]using f) (by simpa[mkD]using hs) (by simp[mkD,hc])
 |s _ _ _ h hsp c e lo hi hb hcap hroom hf hh =>
  have a:∀(i:Nat)(row:List DT),((rows.drop l).take n)[i]?=some row→rows[l+i]?=some row:=by
   intro i row hi;rw[Fe]at hi;split at hi
   ·rw[E4]at hi;exact hi
   ·cases hi
  have g:(mkD.win d l z).o+(mkD.win d l z).cap*z≤d.o+d.cap*z∧d.o≤(mkD.win d l z).o:=by
   simp only[mkD];split
   ·rename_i hc;rw[hc];simp
   ·rw[Nat.sub_mul];have:l*z≤d.cap*z:=Fj _ (by omega);omega
  refine .s _ _ _ (by simpa[mkD]using h) (by simpa[mkD]using hsp) c e lo hi (by simpa[mkD]using hb) (by simp[mkD];omega) (by omega) ?_ ?_
  ·intro x p q;exact hf x (by omega) (by omega)
  ·intro i row j t b k;exact hh _ row j t (a i row b) k
theorem px {D:DSt}{h c:Nat}{t t':DT}(hc:am D h c=some t):∃D',c7 D h c t'=some D':=by unfold am at hc;simp only[Eh]at hc;obtain⟨cs,⟨s,hs,a⟩,_⟩:=hc;exact⟨D.set h (setCells (cs.set c t') s),by unfold c7;rw[hs];simp only[a,Ee]⟩
theorem Inv.bl_once {cx:Cx}{D:DSt}{P:List (DT×Value)}{tm:Array Value}{w:World}(I:Inv cx D P tm w){h c:Nat}{t:DT}(hc:am D h c=some t)(d:t.isOwn=true)(b:Nat):(bl t).count b≤1:=by
 unfold am at hc;simp only[Eh]at hc;obtain⟨cs,⟨s,hs,a⟩,e⟩:=hc;have i:=I.cells_once hs a b;have f:=aV ownR (T.any:DT) b cs c t e;have j:(ownR (T.any:DT)).count b=0:=rfl;have g:ownR t=bl t:=by simp[ownR,d]
 rw[g]at f;omega
theorem Inv.cellsTakeP {cx:Cx}{D:DSt}{C:List (DT×Value)}{a:Act}{w:World}(I:Inv cx D C a.tmps w){x:Operand}{g:Bool}{ts:List DT}{D':DSt}(e:cellsTake mkD D x=some (g,ts,D')):
  ∃ys P,Inv cx D' (P++C) a.tmps w∧Got cx D' w P ts ys∧bd g (a.eval x) ys:=by
 unfold Am.cellsTake at e;split at e
 ·rename_i t;split at e
  ·rename_i u hu;split at e
   ·rename_i Y;cases e;have hv:=I.val t _ hu;have K:=I.mem _ (Ef hu);have hT:=Inv.take I (P:=C) (cs:=[(u,a.tmps.getD t undef)]) hu (fun p hp=>by rw[Er]at hp;subst hp;exact⟨by simp[rootsO],by simp[af],hv⟩)
     (fun p hp h c L d z r g=>by simp at hp;subst hp;simp only at g;rw[g]at Y;cases Y) (fun b=>by rw[fd,bw];exact EQ _) (by simp) (by simp)
    refine⟨[a.tmps.getD t undef],_,hT,⟨.one hv,fun v f=>by simp at f;subst f;exact K.1 _ (by simp[af]),fun v f _=>by simp at f;subst f;exact K.2.1 _ (by simp[rootsO]) Y,fun v f=>?_,fun b=>?_⟩,rfl⟩
    ·simp at f;subst f;cases v with
     |v x=>trivial
     |any=>trivial
     |s k d z r=>cases k<;>first|trivial|(simp[T.isOwn]at Y)
    ·simp[az]
   ·cases e
  ·rename_i us hu;split at e
   ·rename_i M;cases e;have hv:=I.val t _ hu;obtain⟨cs,Z,A⟩:=hv;have K:=I.mem _ (Ef hu);have hk:=I.kind _ (Ef hu);have O:∀v∈ts,∀h c L d z r,v ≠ .s (.lent h c L) d z r:=by intro v hv h c L d z r g;have:=Eo.1 M v hv;rw[g]at this;simp[T.noLent]at this
    have hT:=Inv.take I (cs:=ts.zip cs.toList) hu (fun p hp=>by obtain⟨i,hi⟩:=En hp;rw[FT]at hi;exact⟨Ef hi.1,Ef hi.1,A.2 i _ _ hi.1 hi.2⟩)
     (fun p hp=>O p.1 (List.of_mem_zip hp).1) (fun b=>by rw[ig _ _ A.1];exact EQ _) (by simp) (by simp)
    refine⟨cs.toList,_,hT,⟨A,K.1,K.2.1,fun v hv=>?_,fun b=>?_⟩,by simp only[bd,EV];exact Z⟩
    ·have G4:=hk v hv;have:=O v hv;cases v with
     |v x=>trivial
     |any=>trivial
     |s k d z r =>
      cases k with
      |own=>trivial
      |far=>exact G4
      |lent h c L=>exact absurd rfl (this h c L d z r)
    ·rw[ig _ _ A.1];exact EQ _
   ·cases e
  ·rename_i h c st lo len hu;split at e
   ·rename_i l;split at e
    ·rename_i d z rows hn;rw[Ei]at e;obtain⟨D2,F,e⟩:=e;cases e;have hv:=I.val t _ hu;obtain⟨d',z',n,ad,G,H0,Z,ha,Q⟩:=hv;obtain⟨j,k1,G5,g1,B,g3,g4,J,g6⟩:=I.node G;simp only[bC,g1,Eg]at hn;rw[g3]at hn;cases hn;have I1:=I.dead (bM h c) (qHC h c);have R:=dp (p:=bM h c) (q:=qHC h c) g1 B;unfold bU at F;rw[R,Eg,Eh]at F;obtain⟨t',H,S⟩:=F;obtain⟨s0,H1,m,G6,U,V⟩:=be g1;have W:=I.mem s0 m;have hN:NodeOk w w (.s .own d z rows) (.any:DT):=⟨.any,.any,fun _ h=>h.one,fun _ _ _=>rfl⟩
     obtain⟨N,hc,G7,_⟩:=qV hN rfl st (W.1 j G6) (W.2.1 j U B) (I.bl_once g1 B) g3 H;have o:t'.isOwn=true∨t' = .any:=by
      cases st with
      |nil=>right;cases g3;simp[cV]at H;exact H.symm
      |cons p st=>left;exact(G7 (by simp)).1
     have X:∀b,(ownR t').count b+(bl (.s .own d z rows)).count b≤(ownR j).count b:=by
      intro b;have h1:=hc b;have h0:(bl (.any:DT)).count b=0:=rfl;have h2:ownR j=bl j:=by simp[ownR,B]
      rw[h2];rcases o with h3|h3
      ·have:ownR t'=bl t':=by simp[ownR,h3]
       rw[this];omega
      ·subst h3;have:(ownR (.any:DT)).count b=0:=rfl;omega
     have IU:=I1.upd (P':=(.s .own (mkD.win d lo z) z ((rows.drop lo).take len),a.tmps.getD t undef)::C) (w':=w) S
      {at_:=R,own:=B,holds:=N.holds,ownT:=fun _=>N.own,kind:=o,val:=N.val,
       cnt:=fun b=>by
        rw[fd];have h1:=X b;have h2:=kB (k := .own) (k' := .own) (d:=d) (z:=z) rows lo len b;have h3:ownR (.s .own (mkD.win d lo z) z ((rows.drop lo).take len):DT)=bl (.s .own (mkD.win d lo z) z ((rows.drop lo).take len)):=by simp[ownR,T.isOwn]
        rw[h3];split
        ·omega
        ·rename_i G8;have hz:¬ 0<aO D b+az C b:=fun q=>G8 (I.bnd b q).2
         have h7:(ownR j).count b=0:=by
          rcases E0 ((ownR j).count b)with q|q
          ·exact q
          ·have h5:ownR j=bl j:=by simp[ownR,B]
           rw[h5]at q;have:=br m (b:=b) (V B b (Ew.1 q));omega
         show(ownR t').count b+((bl (.s .own (mkD.win d lo z) z ((rows.drop lo).take len):DT)).count b+az C b)≤1;omega,
       new:=fun b hb y=>by
        exfalso;rw[fd]at y;have hz:¬ 0<aO D b+az C b:=fun q=>by have:=(I.bnd b q).2;omega
        have h1:=X b;have h2:=kB (k := .own) (k' := .own) (d:=d) (z:=z) rows lo len b;have h3:ownR (.s .own (mkD.win d lo z) z ((rows.drop lo).take len):DT)=bl (.s .own (mkD.win d lo z) z ((rows.drop lo).take len)):=by simp[ownR,T.isOwn]
        rw[h3]at y;have G9:0<(ownR t').count b+((bl (.s .own (mkD.win d lo z) z ((rows.drop lo).take len):DT)).count b+az C b):=y;have h6:0<(ownR j).count b:=by omega
        have h7:=br m (b:=b) (V B b (by have h5:ownR j=bl j:=(by simp[ownR,B]);rw[h5]at h6;exact Ew.1 h6));have:=(I.bnd b (by omega)).2;omega,
       hides:=fun s hs=>(kh s hs).1,
       speak:=fun s hs st hsp=>absurd hsp ((kh s hs).2 st),
       size:=EQ _,same:=fun _ _ _=>rfl,os:=rfl,tape:=rfl,output:=rfl,
       pend:=fun p hp=>by
        rcases ER.1 hp with hp|hp
        case inr=>exact I.pend p hp
        subst hp;refine⟨?_,J.win lo len (by omega),fun _=>g6.win lo len (by omega),fun h=>by cases h⟩;show VT _ (a.tmps.getD t undef);rw[Z];exact pF (by omega) J.cap g6.sp rfl ha Q J.nilrows l }
     refine⟨[a.tmps.getD t undef],[(.s .own (mkD.win d lo z) z ((rows.drop lo).take len),a.tmps.getD t undef)],IU,⟨.one ?_,fun v hv=>?_,fun v hv _=>?_,fun v hv=>?_,fun b=>?_⟩,rfl⟩
     ·rw[Z];exact pF (by omega) J.cap g6.sp rfl ha Q J.nilrows l
     ·simp at hv;subst hv;exact J.win lo len (by omega)
     ·simp at hv;subst hv;exact g6.win lo len (by omega)
     ·simp at hv;subst hv;trivial
     ·simp[az]
    ·cases e
   ·cases e
  ·cases e
 ·cases e
theorem Inv.cellsTake {cx:Cx}{D:DSt}{a:Act}{w:World}(I:Inv cx D [] a.tmps w){x:Operand}{g:Bool}{ts:List DT}{D':DSt}(e:cellsTake mkD D x=some (g,ts,D')):
  ∃ys P,Inv cx D' P a.tmps w∧Got cx D' w P ts ys∧bd g (a.eval x) ys:=by
 obtain⟨ys,P,b,c,d⟩:=I.cellsTakeP e;rw[EH]at b;exact⟨ys,P,b,c,d⟩
section
variable  {δ β : Type}
def dw:Bool→List (T δ)→Option (Sl δ β)|true,ts=>some (.agg ts)|false,[t]=>some (.one t)|false,_=>none
end
theorem Got.grew {cx:Cx}{D:DSt}{w w':World}{P:List (DT×Value)}{ts:List DT}{ys:List Value}(h:Got cx D w P ts ys)(g:Grew w w'):Got cx D w' P ts ys :=
 ⟨h.v,fun t a=>(h.holds t a).frame fun b _ hb=>g.same b hb,fun t a c=>(h.own t a c).frame fun b _ hb=>g.same b hb,h.kind,h.cnt⟩
theorem yI {cx:Cx}{D:DSt}{w:World}{P:List (DT×Value)}{g:Bool}{ts:List DT}{ys:List Value}{y:Value}{s:DSl}(G:Got cx D w P ts ys)(hv:bd g y ys)(hs:dw g ts=some s):
  VS D s y∧MemS w s∧cl cx D s∧∀b,(ownBl s).count b≤az P b:=by
 unfold dw at hs;split at hs
 ·cases hs;refine⟨⟨ys.toArray,by simpa[bd]using hv,by simpa using G.v⟩,⟨G.holds,G.own,trivial⟩,G.kind,G.cnt⟩
 ·rename_i t;cases hs;have c:ys=[y]:=by simpa[bd]using hv
  subst c;refine⟨G.v.2 0 t y rfl rfl,⟨fun u a=>G.holds u (by simpa[af]using a),fun u a=>G.own u (by simpa[rootsO]using a),trivial⟩,fun u a=>G.kind u (by simpa[af]using a),fun b=>?_⟩;have:=G.cnt b;simpa[ownBl]using this
 ·cases hs
theorem Inv.putGot {cx:Cx}{D:DSt}{P:List (DT×Value)}{a:Act}{w:World}(I:Inv cx D P a.tmps w){g:Bool}{ts:List DT}{ys:List Value}{y:Value}{s:DSl}(G:Got cx D w P ts ys)
  (hv:bd g y ys) (hs:dw g ts=some s) {dst:Option Nat} (b:∀t,dst=some t→t<D.length) (hd:dst.isSome=true):Inv cx (aE D dst s) [] (a.put dst y).tmps w:=by
 obtain⟨c,d,e,f⟩:=yI G hv hs;cases dst with
 |none=>cases hd
 |some t=>exact Inv.put (P:=P) (Q:=[]) (by rw[EH];exact I) (b t rfl) c d e f
theorem Inv.fresh {cx:Cx}{D:DSt}{P:List (DT×Value)}{tm:Array Value}{w w':World}(I:Inv cx D P tm w)(hs:w.heap.size<w'.heap.size):
  ∀b,0<(if b=w.heap.size then 1 else 0)→(if b=w.heap.size then 1 else 0)≤1∧aO D b+az P b=0∧cx.may b∧b<w'.heap.size:=by
 intro b hb;split at hb
 ·rename_i e;subst e;refine⟨by simp,?_,.inl I.frame.size,hs⟩;rcases E0 (aO D w.heap.size+az P w.heap.size)with g|g
  ·exact g
  ·have:=(I.bnd _ g).2;omega
 ·cases hb
theorem Inv.newBox {cx:Cx}{D:DSt}{P:List (DT×Value)}{a:Act}{w:World}(I:Inv cx D P a.tmps w){ts:List DT}{ys:List Value}(G:Got cx D w P ts ys)(e:TypeId)
  {t:Nat} (k:t<D.length):Inv cx (aE D (some t) (.box (w.heap.size,0) ts)) [] (a.put (some t) (.pointer (some ⟨w.heap.size,0,none⟩))).tmps (w.alloc (.cells ys.toArray e)):=by
 have g:=Grew.alloc w (.cells ys.toArray e);have l:=I.grew g;have d:(w.alloc (.cells ys.toArray e)).heap[w.heap.size]?=some (.cells ys.toArray e (0,0)):=by show(w.heap.push _)[w.heap.size]?=_;simp
 refine Inv.putF (P:=P) (Q:=[]) (by rw[EH];exact l) (fun b=>if b=w.heap.size then 1 else 0)
  (by rw[EH];exact I.fresh (by simp)) k rfl ⟨(G.grew g).holds,(G.grew g).own,?_⟩ (G.kind) ?_
 ·refine⟨⟨ys.toArray,e,(0,0),d,fun j u i=>?_⟩,fun c m lo hi hc x n o=>?_⟩
  ·have f:j<ys.length:=by
    rw[←G.v.1];rcases Em j ts.length with g|g
    ·exact g
    ·rw[Ek g]at i;cases i
   exact⟨ys[j],by simp[f],G.v.2 j u _ i (El f)⟩
  ·simp only at hc;rw[d]at hc;cases hc;omega
 ·intro b;have:=G.cnt b;simp only[ownBl,Fu];split<;>rename_i hb
  ·simp at hb;subst hb;simp;omega
  ·have:¬b=w.heap.size:=fun h=>hb (by simp[h])
   simp[this];omega
theorem Inv.newRows {cx:Cx}{D:DSt}{P:List (DT×Value)}{a:Act}{w w':World}(I:Inv cx D P a.tmps w)(g:Grew w w')(hs:w.heap.size<w'.heap.size){d:Dec}{z:Nat}{rows:List (List DT)}
  (hd:d.b=w.heap.size∧d.nil=false) (e:Holds w' (.s .own d z rows)) (f:OwnT w' (.s .own d z rows))
  (hc:∀b,(rows.flatMap fun x=>x.flatMap bl).count b≤az P b) {t:Nat} (i:t<D.length) {y:Value} (j:VT (.s .own d z rows) y):
  Inv cx (aE D (some t) (.one (.s .own d z rows))) [] (a.put (some t) y).tmps w':=by
 refine Inv.putF (P:=P) (Q:=[]) (by rw[EH];exact I.grew g) (fun b=>if b=w.heap.size then 1 else 0)
  (by rw[EH];exact I.fresh hs) i j ⟨fun u c=>by simp[af]at c;subst c;exact e,fun u c _=>by simp[rootsO]at c;subst c;exact f,trivial⟩
  (fun u c=>by simp[af]at c;subst c;trivial) ?_
 intro b;have l:=hc b;have k:ownBl (.one (.s .own d z rows):DSl)=d.b::rows.flatMap fun x=>x.flatMap bl:=by simp[ownBl,ownR,T.isOwn,bR,hd.2]
 rw[k,Fu];split<;>rename_i hb
 ·simp at hb;subst hb;rw[hd.1]at *;simp;omega
 ·have:¬b=w.heap.size:=fun h=>hb (by rw[hd.1,h];simp)
  simp[this];omega
section
variable  {δ β : Type}
def T.inj (nil:δ):T Unit→T δ| .v x=>.v x| .any=>.any| .s k _ z _=>.s k nil z []
def ao {α:Type}(l:List α)(o:Nat)(new:List α):List α:=l.take o++new++l.drop (o+new.length)
end
theorem cf {α:Type}{l:List α}{o:Nat}{new:List α}(h:o+new.length≤l.length)(i:Nat):
  (ao l o new)[i]?=if i<o then l[i]? else if i<o+new.length then new[i-o]? else l[i]?:=by
 unfold ao;have b:(l.take o).length=o:=by simp;omega
 by_cases hi:i<o
 ·rw[Ej hi,GA,EZ (by omega),Fe,Ej hi]
 ·rw[Eu hi,GA,EX (by omega),b];by_cases a:i<o+new.length
  ·rw[Ej a,EZ (by omega)]
  ·rw[Eu a,EX (by omega),E4];congr 1;omega
theorem fy {α:Type}{l:List α}{o:Nat}{new:List α}(h:o+new.length≤l.length):(ao l o new).length=l.length:=by unfold ao;simp;omega
theorem VCells.splice {ts ts':List DT}{ys b:List Value}(h:VCells ts ys)(e:VCells ts' b){o:Nat}(f:o+ts'.length≤ts.length):VCells (ao ts o ts') (ao ys o b):=by
 have g:=h.1;have j:=e.1;refine⟨by rw[fy f,fy (by omega)];exact g,fun i t y hi a=>?_⟩;rw[cf f]at hi;rw[cf (by omega)]at a;rw[←j]at a;split at hi
 ·rename_i c;rw[Ej c]at a;exact h.2 i t y hi a
 ·rename_i c;rw[Eu c]at a;split at hi
  ·rename_i d;rw[Ej d]at a;exact e.2 _ t y hi a
  ·rename_i d;rw[Eu d]at a;exact h.2 i t y hi a
theorem cR {α:Type}{l new:List α}{o:Nat}{x:α}(h:x∈ao l o new):x∈l∨x∈new:=by
 unfold ao at h;simp only[EI]at h;rcases h with(h|h)|h
 ·exact .inl (Fz h)
 ·exact .inr h
 ·exact .inl (Fi h)
theorem iL {α:Type}(f:α→List Nat)(l new:List α)(o b:Nat):((ao l o new).flatMap f).count b≤(l.flatMap f).count b+(new.flatMap f).count b:=by
 unfold ao;simp only[Fm,ED];have h:((l.take o).flatMap f).count b+((l.drop (o+new.length)).flatMap f).count b≤(l.flatMap f).count b:=by
  have a:=ra f b (l:=l.take o++l.drop (o+new.length)) (l':=l) (by
   conv=>rhs;rw[←List.take_append_drop o l]
   refine List.Sublist.append_left ?_ _;rw[←List.drop_drop];exact Gd _ _)
  simpa[Fm,ED]using a
 omega
theorem rm:∀(a:List Value)(k:Nat)(off:Nat)(cells:Array Value),off+k+a.length≤cells.size →
  ((a.zipIdx k).foldl (fun(cs:Array Value)(p:Value×Nat)=>cs.setIfInBounds (off+p.2) p.1) cells).toList=ao cells.toList (off+k) a
 |[],k,off,cells,h=>by simp[ao]
 |v::a,k,off,cells,h=>by
  simp only[List.zipIdx_cons,Fg];simp only[FZ]at h;rw[rm a (k+1) off _ (by simp;omega)];apply Ft;intro i;rw[cf (by simp;omega),cf (by simp;omega)];simp only[Gw,FZ];by_cases b:i<off+k
  ·rw[Ej (show i<off+(k+1) by omega),Ej b,Es (by omega)]
  ·by_cases d:i=off+k
   ·subst d;rw[Ej (show off+k<off+(k+1) by omega),Eu b,Ej (show off+k<off+k+(a.length+1) by omega),
     Ep (by simp;omega)]
    simp
   ·by_cases c:i<off+k+(a.length+1)
    ·rw[Eu (show ¬i<off+(k+1) by omega),Ej (show i<off+(k+1)+a.length by omega),Eu b,Ej c];obtain⟨j,e⟩:∃j,i-(off+k)=j+1:=⟨i-(off+k)-1,by omega⟩
     rw[e,FM];congr 1;omega
    ·rw[Eu (show ¬i<off+(k+1) by omega),Eu (show ¬i<off+(k+1)+a.length by omega),Eu b,Eu c,Es (by omega)]
theorem cP (v:Array Value)(off:Nat)(cells:Array Value)(h:off+v.size≤cells.size):
  (v.zipIdx.foldl (fun(cs:Array Value)(p:Value×Nat)=>cs.setIfInBounds (off+p.2) p.1) cells)=(ao cells.toList off v.toList).toArray:=by
 have:=rm v.toList 0 off cells (by simpa using h);apply Array.ext';rw[←Array.foldl_toList,Array.toList_zipIdx,this];simp
theorem ez {P:Program}{t:TypeId}{w:World}{cx:Cx}{D:DSt}{ys:List Value}(h:ys.all (·.oneCell')=true):Got cx D w [] ((b7 P t ys).map (T.inj nilD)) ys:=by
 have one:∀n y,y.oneCell'=true→VT ((zT n y).inj nilD) y∧Holds w ((zT n y).inj nilD)∧OwnT w ((zT n y).inj nilD)∧aS cx D ((zT n y).inj nilD)∧bl ((zT n y).inj nilD)=[]:=by
  intro n y hy;unfold zT;split
  ·exact⟨rfl,.e _ _ _,.nil _ _ rfl rfl rfl,trivial,by simp[T.inj,bR,nilD]⟩
  ·exact⟨⟨rfl,hy⟩,.v _,.v _,trivial,rfl⟩
 have all:∀u∈(b7 P t ys).map (T.inj nilD),∃n,∃y∈ys,u=(zT n y).inj nilD:=by intro u a;simp only[Ex,b7,Ff]at a;obtain⟨u',⟨j,c,rfl⟩,rfl⟩:=a;exact⟨_,ys[j],FY c,rfl⟩
 rw[Eo]at h;refine⟨⟨by simp[b7],fun i u y hi hy=>?_⟩,fun u a=>?_,fun u a _=>?_,fun u a=>?_,fun b=>?_⟩
 ·simp only[b7,Et,FG,hy,Ee,EY]at hi;subst hi;exact(one _ y (h y (Ef hy))).1
 ·obtain⟨n,y,hy,rfl⟩:=all u a;exact(one n y (h y hy)).2.1
 ·obtain⟨n,y,hy,rfl⟩:=all u a;exact(one n y (h y hy)).2.2.1
 ·obtain⟨n,y,hy,rfl⟩:=all u a;exact(one n y (h y hy)).2.2.2.1
 ·have:((b7 P t ys).map (T.inj nilD)).flatMap ownR=[]:=by rw[Ey];intro u a;obtain⟨n,y,hy,rfl⟩:=all u a;have:=(one n y (h y hy)).2.2.2.2;unfold ownR;split<;>simp[this]
  rw[this];simp
theorem eY (b:Nat)(e:TypeId)(f:Nat×Nat):∀(a:List Value)(o:Nat)(w:World)(c:Array Value),w.heap[b]?=some (.cells c e f)→o+a.length≤c.size →
  (w.setCells b o a).heap[b]?=some (.cells (ao c.toList o a).toArray e f)∧(∀x,x≠b→(w.setCells b o a).heap[x]?=w.heap[x]?) ∧
   (w.setCells b o a).heap.size=w.heap.size∧(w.setCells b o a).os=w.os∧(w.setCells b o a).tape=w.tape∧(w.setCells b o a).output=w.output
 |[],o,w,c,h,g=>by refine⟨?_,fun _ _=>rfl,rfl,rfl,rfl,rfl⟩;rw[show w.setCells b o []=w from rfl,h];simp[ao]
 |v::a,o,w,c,h,g=>by
  simp only[FZ]at g;have d:(w.setCell ⟨b,o,none⟩ v).heap[b]?=some (.cells (c.setIfInBounds o v) e f):=by simp[World.setCell,Array.getElem?_modify,h]
  obtain⟨m,n,p,q,r,s⟩:=eY b e f a (o+1) _ _ d (by simp;omega);have hs:w.setCells b o (v::a)=(w.setCell ⟨b,o,none⟩ v).setCells b (o+1) a:=rfl;rw[hs];refine⟨?_,fun x k=>?_,by rw[p];simp[World.setCell],q,r,s⟩
  ·rw[m];congr 2;apply Array.ext';simp only[Gw];apply Ft;intro i;rw[cf (by simp;omega),cf (by simp;omega)];simp only[FZ];by_cases d:i<o
   ·rw[Ej (show i<o+1 by omega),Ej d,Es (by omega)]
   ·by_cases t:i=o
    ·subst t;rw[Ej (show i<i+1 by omega),Eu d,Ej (show i<i+(a.length+1) by omega),Ep (by simp;omega)];simp
    ·by_cases l:i<o+(a.length+1)
     ·rw[Eu (show ¬i<o+1 by omega),Ej (show i<o+1+a.length by omega),Eu d,Ej l];obtain⟨j,u⟩:∃j,i-o=j+1:=⟨i-o-1,by omega⟩
      rw[u,FM];congr 1;omega
     ·rw[Eu (show ¬i<o+1 by omega),Eu (show ¬i<o+1+a.length by omega),Eu d,Eu l,Es (by omega)]
  ·rw[n x k];simp only[World.setCell,Array.getElem?_modify];rw[Eu (by simpa using fun h=>k h.symm)]
theorem qj {P:Program}{w:World}{b o:Nat}{c:Array Value}{e:TypeId}{lo hi:Nat}(h:w.heap[b]?=some (.cells c e (lo,hi))){ys:List Value}(i:o+ys.length≤c.size)
  (hf:∀x,o≤x→x<o+ys.length→¬(lo≤x∧x<hi)) (a:∀v∈ys,v.oneCell'=true):(storeCells ⟨b,o,none⟩ ys).run P w = .ok () (w.setCells b o ys):=by
 have:=run_storeCells_cells (P:=P) b o ys 0 w (fun j d=>by rw[kv h];simp;omega) (fun j d=>by
  simp only[World.frozen?,h,Nat.add_zero];have:=hf (o+j) (by omega) (by omega);simp only[Bool.and_eq_false_iff,GF];rcases Em (o+j) lo with g|g
  ·left;omega
  ·right;intro f;exact this ⟨g,f⟩) a
 simpa using this
theorem VCells.cells1 {ts:List DT}{ys:List Value}(h:VCells ts ys):∀v∈ys,v.oneCell'=true:=by
 intro v hv;obtain⟨i,hi⟩:=En hv;have a:i<ts.length:=by
  rw[h.1];rcases Em i ys.length with g|g
  ·exact g
  ·rw[Ek g]at hi;cases hi
 exact(h.2 i _ v (El a) hi).one
theorem oZ {P:Program}{t:TypeId}{ti:TI}(a:gp P t=some ti){w:World}{b o:Nat}{c:Array Value}{e:TypeId}{lo hi:Nat}(h:w.heap[b]?=some (.cells c e (lo,hi)))
  {ys:List Value} {y:Value} {g:Bool} (hv:bd g y ys) (d:g=false→y.oneCell'=true) (f:ys.length=ti.size) (i:o+ys.length≤c.size)
  (hf:∀x,o≤x→x<o+ys.length→¬(lo≤x∧x<hi)) (j:∀v∈ys,v.oneCell'=true):
  (Instr.storeAt t (.pointer (some ⟨b,o,none⟩)) y).run P w = .ok () (w.setCells b o ys):=by
 have hc:y.cells=ys.toArray:=by
  cases g with
  |true=>simp only[bd,EV]at hv;rw[hv];rfl
  |false =>simp only[bd,EE,E3]at hv;subst hv;have:=d rfl;cases y<;>first|rfl|(simp[Value.oneCell']at this)
 have k:=qj (P:=P) h i hf j;simp only[Instr.storeAt,Instr.sureAddr,storeVar,Sem.run_bind,Sem.run_pure,Result.andThen_ok,hc,fU a];simp[f,k]
section
open Go.ChangeShapes Go.Deep
mutual
inductive Ty where|bool|int (k:IntKind)|str|slice (e:Ty)|struct (fs:Fs)
inductive Fs where|nil|cons (t:Ty) (r:Fs)
end
mutual
def Ty.size:Ty→Nat| .struct fs=>fs.size|_=>1
def Fs.size:Fs→Nat| .nil=>0| .cons t r=>t.size+r.size
end
mutual
def Ty.ok (P:Program):Ty→TypeId→Bool
 | .bool,t=>match P.underlying t with|some .bool=>true|_=>false
 | .int k,t=>match P.underlying t with|some (.int k')=>decide (k'=k)|_=>false
 | .str,t=>match P.underlying t with|some .string=>true|_=>false
 | .slice e,t=>match P.underlying t with|some (.slice u)=>Ty.ok P e u&&P.cellsOf u==e.size&&e.size != 0|_=>false
 | .struct fs,t=>match P.underlying t with|some (.struct a)=>Fs.ok P fs a.toList 0&&P.cellsOf t==fs.size|_=>false
def Fs.ok (P:Program):Fs→List Field→Nat→Bool| .nil,[],_=>true| .cons t r,f::fs,off=>f.offset==off&&P.cellsOf f.type==t.size&&Ty.ok P t f.type&&Fs.ok P r fs (off+t.size)|_,_,_=>false
end
mutual
def Shape {δ:Type}:Ty→List (T δ)→Prop| .bool,ts=>∃b,ts=[.v (.bool b)]| .int k,ts=>∃n,ts=[.v (.int k n)]∧(Lit.int k n).wf=true| .str,ts=>∃s,ts=[.v (.string s)]∧s.size≤maxLen| .slice e,ts=>∃d rows,ts=[.s .far d e.size rows]∧rows.length≤maxLen∧∀r∈rows,Shape e r| .struct fs,ts=>ShapeF fs ts
def ShapeF {δ:Type}:Fs→List (T δ)→Prop| .nil,ts=>ts=[]| .cons t r,ts=>∃xs ys,ts=xs++ys∧Shape t xs∧ShapeF r ys
end
structure Reads (w:World)(ts:List DT)(cs:List Value):Prop where
 cells:VCells ts cs
 holds:∀u∈ts,Holds w u
 far:∀u∈ts,u.isOwn=false∧∀b∈bl u,b<w.heap.size
theorem Reads.nil (w:World):Reads w [] []:=⟨⟨rfl,fun i t y h=>by simp at h⟩,fun u h=>by simp at h,fun u h=>by simp at h⟩
theorem Reads.append {w:World}{ts us:List DT}{cs b:List Value}(h:Reads w ts cs)(g:Reads w us b):Reads w (ts++us) (cs++b):=by
 refine⟨⟨by simp[h.cells.1,g.cells.1],fun i t y hi a=>?_⟩,fun u hu=>?_,fun u hu=>?_⟩
 ·rcases Em i ts.length with hl|hl
  ·rw[EZ hl]at hi;rw[EZ (by rw[←h.cells.1];exact hl)]at a;exact h.cells.2 i t y hi a
  ·rw[EX hl]at hi;rw[EX (by rw[←h.cells.1];exact hl), ←h.cells.1]at a;exact g.cells.2 _ t y hi a
 ·rcases EI.1 hu with hu|hu
  ·exact h.holds u hu
  ·exact g.holds u hu
 ·rcases EI.1 hu with hu|hu
  ·exact h.far u hu
  ·exact g.far u hu
theorem Reads.one {w:World}{t:DT}{y:Value}(h:VT t y)(hh:Holds w t)(c:t.isOwn=false)(hb:∀b∈bl t,b<w.heap.size):Reads w [t] [y]:=
 ⟨.one h,fun u a=>by simp at a;subst a;exact hh,fun u a=>by simp at a;subst a;exact⟨c,hb⟩⟩
theorem Reads.val {w:World}{x:Value}(h:x.oneCell'=true):Reads w [.v x] [x]:= .one ⟨rfl,h⟩ (.v x) rfl (fun b hb=>by simp[bl]at hb)
section
variable  {H : Type}{enc : TypeId × Value → H}{P : Program}{w : World}
mutual
theorem Ty.open:∀(ty:Ty)(n:Nat)(t:TypeId)(cs:List Value)(x:DataW H×List MemPlace),Ty.ok P ty t=true→DataW.trod enc P w 0 (fun _=>true) true n t cs=some x →
  ∃ts,Reads w ts cs∧Shape ty ts∧cs.length=ty.size
 | .bool,0,t,cs,x,d,h=>by simp[DataW.trod]at h
 | .bool,n+1,t,cs,x,d,h=>by
  unfold Ty.ok at d;split at d<;>try cases d
  rename_i p;unfold DataW.trod at h;rw[p]at h;split at h<;>simp_all;rename_i b;exact⟨[.v (.bool b)],.val rfl,⟨b,rfl⟩,rfl⟩
 | .int k,0,t,cs,x,d,h=>by simp[DataW.trod]at h
 | .int k,n+1,t,cs,x,d,h=>by
  unfold Ty.ok at d;split at d<;>try cases d
  rename_i k' p;simp at d;subst d;unfold DataW.trod at h;rw[p]at h;split at h<;>simp_all;rename_i k0 _ m _;exact⟨[.v (.int k0 m)],.val rfl,⟨m,rfl,h.1.2⟩,rfl⟩
 | .str,0,t,cs,x,d,h=>by simp[DataW.trod]at h
 | .str,n+1,t,cs,x,d,h=>by
  unfold Ty.ok at d;split at d<;>try cases d
  rename_i p;unfold DataW.trod at h;rw[p]at h;split at h<;>simp_all;rename_i s;exact⟨[.v (.string s)],.val rfl,⟨s,rfl,h.1⟩,rfl⟩
 | .slice e,n,t,cs,x,d,h=>by
  unfold Ty.ok at d;split at d<;>try cases d
  rename_i u p;simp only[EF,GC,bne_iff_ne,ne_eq]at d;obtain⟨⟨d,hc⟩,hz⟩:=d;rcases open_slice p h with⟨rfl,_⟩|⟨a,len,cap,m,n',D,Pl,rfl,_,N,hm,F,_,hx⟩
  ·refine⟨[.s .far ⟨0,0,0,true,none⟩ e.size []],.one (by rfl) (.e _ _ _) rfl (fun b hb=>by simp[bR]at hb),⟨_,[],rfl,by simp,fun r G=>by simp at G⟩,rfl⟩
  ·simp only[EV]at F;subst F;have O:∀i,i<len→∃row,(∃A,w.cells? 0 (a.add (i*e.size)) e.size=some A∧Reads w row A)∧Shape e row∧row.length=e.size:=by intro i hi;obtain⟨A,B,I⟩:=hx i (by omega);obtain⟨row,h3,h4,h5⟩:=Ty.open e n' u A _ d I;exact⟨row,⟨A,by rw[←hc];exact B,h3⟩,h4,by rw[h3.cells.1,h5]⟩
   obtain⟨R,C⟩:=choose_lt O;by_cases h0:len=0
   ·subst h0;exact⟨[.s .far ⟨0,0,m,true,some a⟩ e.size []],.one rfl (.e _ _ _) rfl (fun b hb=>by simp[bR]at hb),⟨_,_,rfl,by simp,fun r G=>by simp at G⟩,rfl⟩
   have l:∀(i:Nat)(row:List DT),((List.range len).map R)[i]?=some row→i<len∧row=R i:=by
    intro i row hi;rcases Em i len with g|g
    ·rw[Et,Fn g]at hi;cases hi;exact⟨g,rfl⟩
    ·rw[Ek (by simpa using g)]at hi;cases hi
   obtain⟨⟨G5,v0,r0⟩,s0,l0⟩:=C 0 (by omega);obtain⟨_,Q,y⟩:=World.cells?_some v0;have o:=y 0 (by omega);have S:(a.add (0*e.size)).add 0=a:=by simp[Addr.add]
   rw[S,El (by omega)]at o;unfold World.cell? at o;split at o
   case h_2=>cases o
   rename_i c e' f hb;split at o
   ·cases o
   rename_i hsp;have G4:a.spot=none:=by simpa using hsp
   have J:∀k,a.add k=⟨a.block,a.off+k,none⟩:=by
    intro k;unfold Addr.add;split
    ·rename_i U;subst U;cases a;simp_all
    ·rfl
   refine⟨[.s .far ⟨a.block,a.off,m,false,none⟩ e.size ((List.range len).map R)],.one ?_ ?_ rfl ?_,⟨_,_,rfl,by simp;omega,?_⟩,rfl⟩
   ·have:a=⟨a.block,a.off,none⟩:=by cases a;simp_all
    simp only[VT,Dec.addr,EJ,List.length_range,EE,E3];rw[←this]
   ·refine .s _ _ _ _ rfl rfl c e' f hb (by simp;omega) (fun i row hi=>?_) (fun i row j u hi hj=>?_) (fun i row j u hi hj=>?_)
    ·obtain⟨g,rfl⟩:=l i row hi;exact(C i g).2.2
    ·obtain⟨g,rfl⟩:=l i row hi;obtain⟨⟨A,V,K⟩,s1,l1⟩:=C i g;obtain⟨_,W,z⟩:=World.cells?_some V;have X:j<e.size:=by
      rcases Em j (R i).length with q|q
      ·omega
      ·rw[Ek q]at hj;cases hj
     have B:=z j X;rw[El (by omega),J]at B;have I:=K.cells.2 j u _ hj (El (by omega));refine⟨_,?_,I⟩;have e1:Addr.add ⟨a.block,a.off+i*e.size,none⟩ j=⟨a.block,a.off+i*e.size+j,none⟩:=by
      unfold Addr.add;split
      ·rename_i U;subst U;rfl
      ·rfl
     rw[e1,kv hb]at B;exact B
    ·obtain⟨g,rfl⟩:=l i row hi;obtain⟨A,V,K⟩:=(C i g).1;exact K.holds u (Ef hj)
   ·intro b v;rw[bR]at v;simp only[EE,E3,EI,Er,Eq]at v;rcases v with rfl|⟨row,L,u,p,v⟩
    ·exact cQ hb
    ·obtain⟨i,hi⟩:=En L;obtain⟨g,rfl⟩:=l i row hi;obtain⟨A,V,K⟩:=(C i g).1;exact(K.far u p).2 b v
   ·intro r G;obtain⟨i,hi⟩:=En G;obtain⟨g,rfl⟩:=l i r hi;exact(C i g).2.1
 | .struct fs,n,t,cs,x,d,h=>by
  unfold Ty.ok at d;split at d<;>try cases d
  rename_i a p;simp only[EF,GC]at d;obtain⟨d,hc⟩:=d;obtain⟨xs,n',_,rfl,N,M,hf⟩:=DataW.trod_struct p h;obtain⟨ts,B,I⟩:=Fs.open fs a.toList 0 n' cs d (by rw[N,hc];omega) (fun f Y=>by
   obtain⟨i,hi⟩:=En Y;have:=hf i f (by simpa using hi);have Z:i<xs.length:=by
    rw[M];rcases Em i a.size with g|g
    ·exact g
    ·rw[Ek (by simpa using g)]at hi;cases hi
   rw[El Z]at this;exact⟨_,this⟩)
  exact⟨ts,by simpa using B,I,by rw[N,hc];rfl⟩
theorem Fs.open:∀(fs:Fs)(a:List Field)(off n:Nat)(cs:List Value),Fs.ok P fs a off=true→cs.length=off+fs.size →
  (∀f∈a,∃y,DataW.trod enc P w 0 (fun _=>true) true n f.type ((cs.drop f.offset).take (P.cellsOf f.type))=some y)→∃ts,Reads w ts (cs.drop off)∧ShapeF fs ts
 | .nil,[],off,n,cs,b,c,h=>⟨[],by rw[Fq (by simp[Fs.size]at c;omega)];exact .nil w,rfl⟩
 | .nil,_::_,off,n,cs,b,c,h=>by simp[Fs.ok]at b
 | .cons t r,[],off,n,cs,b,c,h=>by simp[Fs.ok]at b
 | .cons t r,f::a,off,n,cs,b,c,h=>by
  simp only[Fs.ok,EF,GC]at b;obtain⟨⟨⟨d,hc⟩,i⟩,j⟩:=b;simp only[Fs.size]at c;obtain⟨y,e⟩:=h f (by simp);rw[d,hc]at e;obtain⟨xs,k,l,q⟩:=Ty.open t n f.type _ y i e;obtain⟨ys,m,o⟩:=Fs.open r a (off+t.size) n cs j (by omega) (fun g p=>h g (by simp[p]));refine⟨xs++ys,?_,xs,ys,rfl,l,o⟩;have:cs.drop off=(cs.drop off).take t.size++cs.drop (off+t.size):=by rw[←List.drop_drop,List.take_append_drop]
  rw[this];exact k.append m
end
end
end
def atR (h off n:Nat):Nat→Nat→Bool:=fun a c=>a==h&&decide (off≤c)&&decide (c<off+n)
def qR (h off n:Nat):Nat→Nat→Bool→Bool:=fun a c _=>atR h off n a c
theorem Got.dead {cx:Cx}{D:DSt}{w:World}{P:List (DT×Value)}{ts:List DT}{ys:List Value}(G:Got cx D w P ts ys)(p:Nat→Nat→Bool)(q:Nat→Nat→Bool→Bool):
  Got cx (St.dead p q D) w P (ts.map (T.dead p)) ys:=by
 refine⟨lm G.v,fun t a=>?_,fun t a f=>?_,fun t a=>?_,fun b=>?_⟩
 ·obtain⟨u,d,rfl⟩:=Ex.1 a;exact wt (G.holds u d)
 ·obtain⟨u,d,rfl⟩:=Ex.1 a;rcases T.dead_cases p u with e|⟨e,_⟩
  ·rw[e]at f ⊢;exact G.own u d f
  ·rw[e]at f;cases f
 ·obtain⟨u,d,rfl⟩:=Ex.1 a;rcases T.dead_cases p u with e|⟨e,_⟩
  ·rw[e];exact pB (fun h c t=>dp) (G.kind u d)
  ·rw[e];trivial
 ·have:(ts.map (T.dead p)).flatMap ownR=ts.flatMap ownR:=by rw[FF];simp only[nQ]
  rw[this];exact G.cnt b
theorem Inv.box_got {cx:Cx}{D:DSt}{P:List (DT×Value)}{tm:Array Value}{w:World}(I:Inv cx D P tm w){h:Nat}{b:Nat×Nat}{ts:List DT}(hb:D[h]?=some (.box b ts))
  {us:List DT} {ys:List Value} (G:Got cx D w P us ys) {v:DT} (hv:v∈us):b.1∉bl v:=by
 intro a;have c:=(I.box_may hb).1;have e:=G.kind v hv;cases v with
 |v x=>simp[bl]at a
 |any=>simp[bl]at a
 |s k d z r =>
  cases k with
  |far=>exact Cx.far_not (e _ a) c
  |lent l m n =>obtain⟨t',f,g,i,j⟩:=e;exact I.box_tree hb f g (i _ a)
  |own =>have o:=I.once b.1;have p:=G.cnt b.1;have q:=br (b:=b.1) (Ef hb) (by simp[ownBl]);have t:0<(us.flatMap ownR).count b.1:=Ew.2 (Eq.2 ⟨_,hv,by simp only[ownR,T.isOwn,EV];exact a⟩);omega
theorem fz {α:Type}{l:List α}{o:Nat}{new:List α}(h:o+new.length≤l.length){i:Nat}(hi:¬(o≤i∧i<o+new.length)):(ao l o new)[i]?=l[i]?:=by
 rw[cf h];split
 ·rfl
 ·split
  ·omega
  ·rfl
theorem Inv.storeBox {cx:Cx}{D:DSt}{P:List (DT×Value)}{tm:Array Value}{w:World}(I:Inv cx D P tm w){h:Nat}{b:Nat×Nat}{ts:List DT}(hb:D[h]?=some (.box b ts))
  {us:List DT} {ys:List Value} (G:Got cx D w P us ys) {off:Nat} (hl:off+us.length≤ts.length) (G6:0<us.length):
  (∃c e lo hi,w.heap[b.1]?=some (.cells c e (lo,hi))∧b.2+off+ys.length≤c.size∧∀x,b.2+off≤x→x<b.2+off+ys.length→¬(lo≤x∧x<hi)) ∧
  Inv cx ((St.dead (atR h off us.length) (qR h off us.length) D).set h (.box b (ao (ts.map (T.dead (atR h off us.length))) off (us.map (T.dead (atR h off us.length))))))
   [] tm (w.setCells b.1 (b.2+off) ys):=by
 have G7:=G.v.1;obtain⟨⟨c,e,⟨lo,hi⟩,hh,hv⟩,i⟩:=(I.mem _ (Ef hb)).2.2;have H0:b.2+ts.length≤c.size:=by
  obtain⟨y,hy,_⟩:=hv (ts.length-1) _ (El (by omega));rcases Em (b.2+(ts.length-1)) c.size with g|g
  ·omega
  ·rw[E9 g]at hy;cases hy
 have Y:∀x,b.2+off≤x→x<b.2+off+ys.length→¬(lo≤x∧x<hi):=fun x m J=>i c e lo hi hh x (by omega) (by omega)
 refine⟨⟨c,e,lo,hi,hh,by omega,Y⟩,?_⟩;obtain⟨f1,f2,f3,f4,f5,f6⟩:=eY b.1 e (lo,hi) ys (b.2+off) w c hh (by omega);have F:=I.dead (atR h off us.length) (qR h off us.length);have o:=G.dead (atR h off us.length) (qR h off us.length);have hb2:=sL (p:=atR h off us.length) (q:=qR h off us.length) hb;have Z:∀{n f:Nat},atR h off us.length n f=true→∀s∈St.dead (atR h off us.length) (qR h off us.length) D,¬jP n f s∧((∀b,qR h off us.length n f b=true)→∀st,¬jg n f st s)∧((qR h off us.length n f true=true)→∀st,jg n f st s→st=[]):=
  fun K=>gO K
 generalize H1:St.dead (atR h off us.length) (qR h off us.length) D=D2 at F o hb2 Z ⊢;generalize Q:ts.map (T.dead (atR h off us.length))=A at hb2 ⊢;generalize R:us.map (T.dead (atR h off us.length))=l at o ⊢;have G8:A.length=ts.length:=by rw[←Q];simp
 have G9:l.length=us.length:=by rw[←R];simp
 have B:off+l.length≤A.length:=by omega
 have L:=F.mem _ (Ef hb2);have a:∀t:DT,b.1∉bl t→∀x∈bl t,x<w.heap.size→(w.setCells b.1 (b.2+off) ys).heap[x]?=w.heap[x]?:=fun t ht x hx _=>f2 x (fun e=>ht (e ▸ hx))
 refine F.boxSet (ts:=A) ⟨hb2,fy B,?_,?_,?_,?_,?_,?_,?_,?_,?_,?_,?_,?_,?_⟩
 ·
  refine⟨_,e,(lo,hi),f1,fun j t M=>?_⟩;obtain⟨c2,e2,H3,S,U⟩:=L.2.2.1;rw[hh]at S;cases S;rw[cf B]at M;have G4:b.2+off+ys.length≤c.toList.length:=by simp;omega
  simp only[F6];rw[cf G4];split at M
  ·rename_i m;rw[Ej (by omega)];simpa using U j t M
  ·split at M
   ·rename_i m J;rw[Eu (by omega),Ej (by omega)];have C:j-off<ys.length:=by omega
    refine⟨ys[j-off],?_,?_⟩
    ·rw[show b.2+j-(b.2+off)=j-off by omega];exact El C
    ·exact o.v.2 _ t _ M (El C)
   ·rename_i m J;rw[Eu (by omega),Eu (by omega)];simpa using U j t M
 ·intro f N H4 H5 hc x m J;rw[f1]at hc;cases hc;exact i c e lo hi hh x m (by omega)
 ·intro t ht;rcases cR ht with ht|ht
  ·exact(L.1 t ht).frame (a t (F.box_root hb2 hb2 ht))
  ·exact(o.holds t ht).frame (a t (F.box_got hb2 o ht))
 ·intro t ht ho;rcases cR ht with ht|ht
  ·exact(L.2.1 t ht ho).frame (a t (F.box_root hb2 hb2 ht))
  ·exact(o.own t ht ho).frame (a t (F.box_got hb2 o ht))
 ·intro t ht;have hk:aS cx D2 t:=by
   rcases cR ht with ht|ht
   ·exact F.kind _ (Ef hb2) t ht
   ·exact o.kind t ht
  have G5:∀c O d z r,off≤c→c<off+us.length→t ≠ .s (.lent h c O) d z r:=by
   intro c O d z r m J e;have V:∀u:DT,u.dead (atR h off us.length) ≠ .s (.lent h c O) d z r:=by
    intro u H;rcases T.dead_cases (atR h off us.length) u with N|⟨N,_⟩
    ·rw[N]at H;subst H;have:(T.s (.lent h c O) d z r:DT).dead (atR h off us.length)= .any:=by simp[T.dead,atR,m,J]
     rw[this]at N;cases N
    ·rw[N]at H;cases H
   subst e;rcases cR ht with ht|ht
   ·rw[←Q]at ht;obtain⟨u,_,H⟩:=Ex.1 ht;exact V u H
   ·rw[←R]at ht;obtain⟨u,_,H⟩:=Ex.1 ht;exact V u H
  cases t with
  |v x=>trivial
  |any=>trivial
  |s k d z r =>
   cases k with
   |own=>trivial
   |far=>exact hk
   |lent n f O =>
    obtain⟨t',g1,g2,g3⟩:=hk;refine⟨t',?_,g2,g3⟩;by_cases e:n=h
    ·subst e;have W:¬(off≤f∧f<off+l.length):=fun⟨m,J⟩=>G5 f O d z r m (by omega) rfl
     have C:n<D2.length:=by
      rcases Em n D2.length with g|g
      ·exact g
      ·rw[Ek g]at hb2;cases hb2
     simp only[am,hb2,Eg,aD]at g1;simp only[am,Ep C,Eg,aD];rw[fz B W];exact g1
    ·rw[gw e];exact g1
 ·intro x;have m:=iL ownR A l off x;have J:=o.cnt x;rw[bw];omega
 ·intro f t hc ho;by_cases X:off≤f∧f<off+l.length
  ·right;have K:atR h off us.length h f=true:=by simp[atR,X.1];omega
   refine⟨fun s hs=>?_,fun s hs st=>?_⟩
   ·exact(Z K s hs).1
   ·exact(Z K s hs).2.1 (fun b=>K) st
  ·left;rw[fz B X];exact hc
 ·omega
 ·exact fun x _ hx=>f2 x hx
 ·exact f4
 ·exact f5
 ·exact f6
 ·intro p K;cases K
section
variable  {δ : Type}
def T.flat:T δ→Bool| .s _ _ _ _=>false|_=>true
def setRow (i off:Nat)(us:List (T δ)):T δ→Option (T δ)| .s k d z rows=>(rows[i]?).bind fun row=>if off+us.length≤row.length then some (.s k d z (rows.set i (ao row off us)))else none|_=>none
end
theorem qb {f:DT→Option DT}{n n':DT}(hf:f n=some n')(K:∀a d z m,fY n a d z m→fY n' a d z m):∀(st:List (Nat×Nat)){t t':DT},
  getN t st=some n→cV f t st=some t'→∀a d z m,fY t a d z m→fY t' a d z m
 |[],t,t',l,q,a,d,z,m,h=>by cases l;simp only[cV,hf]at q;cases q;exact K a d z m h
 |(i,c)::st,t,t',l,q,a,d,z,m,h=>by
  cases t with
  |v x=>simp[getN]at l
  |any=>simp[getN]at l
  |s O P Q rows =>
   simp only[getN,Eh]at l;obtain⟨u,⟨row,hi,A⟩,l⟩:=l;simp only[cV,hi,A,Eg,Ei]at q;obtain⟨u',q,rfl⟩:=q;have I:=qb hf K st l q;have o:i<rows.length:=by
    rcases Em i rows.length with g|g
    ·exact g
    ·rw[Ek g]at hi;cases hi
   have y:c<row.length:=by
    rcases Em c row.length with g|g
    ·exact g
    ·rw[Ek g]at A;cases A
   obtain⟨C,b,r,B⟩:=h;cases a with
   |nil =>cases r;exact⟨_,_,rfl,by simpa using B⟩
   |cons p a =>
    obtain⟨D,F⟩:=p;simp only[getN,Eh]at r;obtain⟨v,⟨G,j,k⟩,r⟩:=r;by_cases e:D=i∧F=c
    ·obtain⟨rfl,rfl⟩:=e;rw[hi]at j;cases j;rw[A]at k;cases k;obtain⟨J,w,L,M⟩:=I a d z m ⟨C,b,r,B⟩;refine⟨J,w,?_,M⟩;simp only[getN];rw[Ep o];simp only[Eg];rw[Ep y];exact L
    ·refine⟨C,b,?_,B⟩;simp only[getN];by_cases H:D=i
     ·subst H;rw[hi]at j;cases j;have N:¬c=F:=fun h=>e ⟨rfl,h.symm⟩
      rw[Ep o];simp only[Eg];rw[Es N,k];exact r
     ·rw[Es (fun h=>H h.symm),j];simp only[Eg];rw[k];exact r
theorem tW {k:Kd}{w:Dec}{y:Nat}{rows:List (List DT)}{i off:Nat}{row us:List DT}(hi:rows[i]?=some row)(D:off+us.length≤row.length)
  (e:∀c,off≤c→c<off+us.length→∀t,row[c]?=some t→t.flat=true) (a:List (Nat×Nat)) (d:Dec) (z m:Nat) (h:fY (.s k w y rows) a d z m):
  fY (.s k w y (rows.set i (ao row off us))) a d z m:=by
 have o:i<rows.length:=by
  rcases Em i rows.length with g|g
  ·exact g
  ·rw[Ek g]at hi;cases hi
 obtain⟨F,f,b,A⟩:=h;cases a with
 |nil =>cases b;exact⟨_,_,rfl,by simpa using A⟩
 |cons p a =>
  obtain⟨G,u⟩:=p;simp only[getN,Eh]at b;obtain⟨v,⟨B,j,l⟩,b⟩:=b;refine⟨F,f,?_,A⟩;simp only[getN];by_cases C:G=i
  ·subst C;rw[hi]at j;cases j;rw[Ep o];simp only[Eg];by_cases n:off≤u∧u<off+us.length
   ·have:=e u n.1 n.2 v l;cases v with
    |s k d z r=>cases this
    |v x=>cases a with
     |nil=>cases b
     |cons p q=>simp[getN]at b
    |any=>cases a with
     |nil=>cases b
     |cons p q=>simp[getN]at b
   ·rw[fz D n,l];exact b
  ·rw[Es (fun h=>C h.symm),j];simp only[Eg];rw[l];exact b
theorem Inv.got_apart {cx:Cx}{D:DSt}{P:List (DT×Value)}{tm:Array Value}{w:World}(I:Inv cx D P tm w){h c:Nat}{t:DT}(hc:am D h c=some t)(e:t.isOwn=true)
  {us:List DT} {ys:List Value} (G:Got cx D w P us ys) {v:DT} (hv:v∈us) (hf:v.fine=true) {b:Nat} (hb:b∈bl t) (a:b∈bl v):False:=by
 cases v with
 |v x=>simp[bl]at a
 |any=>simp[bl]at a
 |s k d z r =>
  cases k with
  |far=>cases hf
  |lent j l m=>cases hf
  |own =>obtain⟨s,n,f,o,g,i⟩:=be hc;have p:=I.once b;have q:=G.cnt b;have u:=br (b:=b) f (i e b hb);have y:0<(us.flatMap ownR).count b:=Ew.2 (Eq.2 ⟨_,hv,by simp only[ownR,T.isOwn,EV];exact a⟩);omega
theorem oM {t:DT}(h:t.fine=true):t.isOwn=true∨bl t=[]:=by
 cases t with
 |v x=>right;simp[bl]
 |any=>right;simp[bl]
 |s k d z r=>cases k<;>first|(left;rfl)|cases h
theorem jR {w:World}{t:DT}(hf:t.fine=true)(h:t.isOwn=true→OwnT w t):OwnT w t:=by
 cases t with
 |v x=>exact .v x
 |any=>exact .any
 |s k d z r=>cases k<;>first|exact h rfl|cases hf
theorem iD {i a z j:Nat}(h:a<i)(b:j<z):a*z+j<i*z:=by have:(a+1)*z≤i*z:=Fj _ h;rw[FC]at this;omega
theorem dY:∀(st:List (Nat×Nat)){t n:DT},getN t st=some n→∀b,(bl n).count b≤(bl t).count b
 |[],t,n,h,b=>by cases h;exact EQ _
 |(i,c)::st,t,n,h,b=>by
  cases t with
  |v x=>simp[getN]at h
  |any=>simp[getN]at h
  |s k d z rows =>simp only[getN,Eh]at h;obtain⟨u,⟨row,hi,a⟩,e⟩:=h;have f:=dY st e b;have g:=sq (k:=k) (d:=d) (z:=z) hi a b;omega
theorem NodeOk.setRow {cx:Cx}{D:DSt}{P:List (DT×Value)}{tm:Array Value}{w:World}(I:Inv cx D P tm w){h c:Nat}{t:DT}(hc:am D h c=some t)(S:t.isOwn=true)
  {st:List (Nat×Nat)} {k:Kd} {d:Dec} {z:Nat} {rows:List (List DT)} (hn:getN t st=some (.s k d z rows)) {i off:Nat} {row us:List DT} {ys:List Value} (hi:rows[i]?=some row)
  (G:Got cx D w P us ys) (H:∀u∈us,u.fine=true) (hl:off+us.length≤row.length):
  (∃U e lo W,w.heap[d.b]?=some (.cells U e (lo,W))∧d.o+i*z+off+ys.length≤U.size∧∀x,d.o+i*z+off≤x→x<d.o+i*z+off+ys.length→¬(lo≤x∧x<W)) ∧
  (d.nil=false∧d.b<w.heap.size∧d.b∈bl t) ∧
  NodeOk w (w.setCells d.b (d.o+i*z+off) ys) (.s k d z rows) (.s k d z (rows.set i (ao row off us))):=by
 have H5:=G.v.1;obtain⟨s,hs,G7,hr,G8,H6⟩:=be hc;have V:=I.mem s G7;have hH:=Holds.getN st (V.1 t hr) hn;have hO:=OwnT.getN st (V.2.1 t G8 S) hn;have B:i<rows.length:=by
  rcases Em i rows.length with g|g
  ·exact g
  ·rw[Ek g]at hi;cases hi
 cases hH with
 |e=>simp at B
 |s _ _ _ _ r hsp U e f hb hcap hz hv hh =>
  cases hO with
  |nil=>simp at B
  |s _ _ _ G9 H7 c1 e1 lo L X H0 hroom Y H1 =>
   rw[hb]at X;cases X;have H3:=hz i row hi;have H4:(i+1)*z≤d.cap*z:=Fj _ (by omega);rw[FC]at H4;have M:d.o+i*z+off+ys.length≤U.size:=by omega
   have O:d.b∈bl (.s .own d z rows:DT):=fO r;have Z:d.b∈bl t:=lM st hn d.b O;refine⟨⟨U,e,lo,L,hb,M,fun x p C=>Y x (by omega) (by omega)⟩,⟨r,cQ hb,Z⟩,?_⟩;obtain⟨f1,f2,f3,f4,f5,f6⟩:=eY d.b e (lo,L) ys (d.o+i*z+off) w U hb M;have G4:=I.bl_once hc S d.b;have F:∀(m:Nat)(a:List DT)(j:Nat)(u:DT),rows[m]?=some a→a[j]?=some u→d.b∉bl u:=by
    intro m a j u p C V;have q1:=sq (k := .own) (d:=d) (z:=z) p C d.b;rw[r]at q1;simp only[EE,E3]at q1;have q2:(bl (.s .own d z rows:DT)).count d.b≤1:=by refine E7 ?_ G4;exact dY st hn d.b
    have q3:0<(bl u).count d.b:=Ew.2 V;simp at q1;omega
   have n:∀u:DT,d.b∉bl u→∀x∈bl u,x<w.heap.size→(w.setCells d.b (d.o+i*z+off) ys).heap[x]?=w.heap[x]?:=fun u Q x hx _=>f2 x (fun e=>Q (e ▸ hx))
   have R:∀u∈us,d.b∉bl u:=fun u Q V=>I.got_apart hc S G Q (H u Q) Z V
   have A:∀(m:Nat)(a:List DT)(j:Nat)(u:DT),(rows.set i (ao row off us))[m]?=some a→a[j]?=some u →
     (∃l,rows[m]?=some l∧l[j]?=some u∧¬(m=i∧off≤j∧j<off+us.length))∨(m=i∧off≤j∧j<off+us.length∧us[j-off]?=some u):=by
    intro m a j u p C;by_cases e:m=i
    ·subst e;rw[Ep B]at p;cases p;by_cases J:off≤j∧j<off+us.length
     ·right;rw[cf hl,Eu (by omega),Ej (by omega)]at C;exact⟨rfl,J.1,J.2,C⟩
     ·left;rw[fz hl J]at C;exact⟨row,hi,C,fun g=>J g.2⟩
    ·left;rw[Es (fun g=>e g.symm)]at p;exact⟨a,p,C,fun g=>e g.1⟩
   refine⟨?_,?_,?_,?_⟩
   ·refine .s _ _ _ _ r hsp _ e (lo,L) f1 (by simpa using hcap) (fun m a p=>?_) (fun m a j u p C=>?_) (fun m a j u p C=>?_)
    ·by_cases e:m=i
     ·subst e;rw[Ep B]at p;cases p;rw[fy hl];exact H3
     ·rw[Es (fun g=>e g.symm)]at p;exact hz m a p
    ·have G5:d.o+i*z+off+ys.length≤U.toList.length:=by simpa using M
     simp only[F6];rcases A m a j u p C with⟨l,N,K,g3⟩|⟨rfl,N,K,g3⟩
     ·obtain⟨y,y1,y2⟩:=hv m l j u N K;refine⟨y,?_,y2⟩;have hj:j<z:=by
       have:=hz m l N;rcases Em j l.length with q|q
       ·omega
       ·rw[Ek q]at K;cases K
      rw[fz G5 ?_]
      ·simpa using y1
      ·intro J;rcases Ge m i with q|q|q
       ·have:=iD q hj;omega
       ·subst q;exact g3 ⟨rfl,by omega,by omega⟩
       ·have:=iD (j:=off+us.length-1) (z:=z) q (by omega);omega
     ·have G6:j-off<ys.length:=by omega
      rw[cf G5,Eu (by omega),Ej (by omega)];refine⟨ys[j-off],?_,G.v.2 _ u _ g3 (El G6)⟩;rw[show d.o+m*z+j-(d.o+m*z+off)=j-off by omega];exact El G6
    ·rcases A m a j u p C with⟨l,N,K,_⟩|⟨_,_,_,g3⟩
     ·exact(hh m l j u N K).frame (n u (F m l j u N K))
     ·exact(G.holds u (Ef g3)).frame (n u (R u (Ef g3)))
   ·refine .s _ _ _ r hsp _ e lo L f1 (by simpa using hcap) ?_ Y (fun m a j u p C=>?_)
    ·simp only[GB];rw[fy (by simpa using M)];simpa using hroom
    ·rcases A m a j u p C with⟨l,N,K,_⟩|⟨_,_,_,g3⟩
     ·exact(H1 m l j u N K).frame (n u (F m l j u N K))
     ·have Q:=Ef g3;exact(jR (H u Q) (G.own u Q)).frame (n u (R u Q))
   ·intro y hy;simpa[VT]using hy
   ·intro x _ hx;exact f2 x fun e=>hx (e ▸ O)
def qSt (a:Bool)(h c:Nat):Nat→Nat→Bool→Bool:=if a then qNo else gA h c
theorem hJ {D:DSt}{h c:Nat}{t:DT}(hc:am D h c=some t)(d:t.isOwn=true)(b:Nat):(bl t).count b≤aO D b:=by
 unfold am at hc;simp only[Eh]at hc;obtain⟨cs,⟨s,hs,a⟩,e⟩:=hc;have f:=aV ownR (T.any:DT) b cs c t e;have i:(ownR (T.any:DT)).count b=0:=rfl;have g:ownR t=bl t:=by simp[ownR,d]
 have j:=iU a b;have k:=aV ownBl (Sl.any:DSl) b D h s hs;have l:(ownBl (Sl.any:DSl)).count b=0:=rfl;unfold aO;rw[g]at f;omega
theorem Inv.updNode {cx:Cx}{D:DSt}{P P':List (DT×Value)}{tm:Array Value}{w w':World}(I:Inv cx D P tm w){h c:Nat}{t:DT}(hc:am D h c=some t)(j:t.isOwn=true)
  {st:List (Nat×Nat)} {f:DT→Option DT} {n n':DT} (y:getN t st=some n) (hf:f n=some n') (N:NodeOk w w' n n') (G4:n.isOwn=true→n'.isOwn=true)
  {p:Nat→Nat→Bool} {q:Nat→Nat→Bool→Bool} (hp:p h c=true)
  (hq:(∀l d z m,fY n l d z m→fY n' l d z m)∨(q h c true=true∧∀d z m,fY n [] d z m→fY n' [] d z m)∨(∀b,q h c b=true))
  (B:∀b,(bl n').count b+az P' b≤if b<w.heap.size then(bl n).count b+az P b else 1) (L:∀b,w.heap.size≤b→0<(bl n').count b+az P' b→b<w'.heap.size)
  (F:w.heap.size≤w'.heap.size) (G5:w'.os=w.os) (G:w'.tape=w.tape) (M:w'.output=w.output)
  (H:∀p∈P',VT p.1 p.2∧Holds w' p.1∧(p.1.isOwn=true→OwnT w' p.1)∧(p.1.isOwn=false→∀x∈bl p.1,cx.far x)):
  ∃D',bU f (St.dead p q D) h c st=some D'∧Inv cx D' P' tm w':=by
 obtain⟨s,hs,G6,hr,O,Q⟩:=be hc;have hm:=I.mem s G6;have A:∃t',cV f t st=some t':=by
  clear hr O Q B hm hc j;induction st generalizing t with
  |nil=>cases y;exact⟨n',hf⟩
  |cons a st ih =>
   obtain⟨i,c⟩:=a;cases t with
   |v x=>simp[getN]at y
   |any=>simp[getN]at y
   |s k d z rows =>simp only[getN,Eh]at y;obtain⟨u,⟨row,hi,hj⟩,hg⟩:=y;obtain⟨u',G7⟩:=ih hg;exact⟨.s k d z (rows.set i (row.set c u')),by simp[cV,hi,hj,G7]⟩
 obtain⟨t',A⟩:=A;obtain⟨Z,R,C,_⟩:=qV N hf st (hm.1 t hr) (hm.2.1 t O j) (fun b=>I.bl_once hc j b) y A;have J:t'.isOwn=true:=by
  cases st with
  |nil =>cases y;simp only[cV,hf]at A;cases A;exact G4 j
  |cons a st=>exact(C (by simp)).1
 have K:am (St.dead p q D) h c=some t:=dp hc j;obtain⟨D',S⟩:=px (t':=t') K;refine⟨D',?_,?_⟩
 ·unfold bU;rw[K];simp only[Eg,A,S]
 have I2:=I.dead p q;have o:∀b,(bl n).count b≤(bl t).count b:=dY st y;have U:ownR t'=bl t':=by simp[ownR,J]
 have V:ownR t=bl t:=by simp[ownR,j]
 refine I2.upd S ⟨K,j,Z.holds,fun _=>Z.own,.inl J,Z.val,?_,?_,?_,?_,F,?_,G5,G,M,H⟩
 ·intro b;have h1:=B b;have h2:=R b;have h3:=o b;have h4:=I.once b;have h5:=hJ hc j b;rw[U,V];by_cases r:b<w.heap.size
  ·rw[Ej r]at h1 ⊢;omega
  ·rw[Eu r]at h1 ⊢;have h6:aO D b+az P b=0:=by
    rcases E0 (aO D b+az P b)with g|g
    ·exact g
    ·exact absurd (I.bnd b g).2 r
   omega
 ·intro b hb W;have h2:=R b;have h5:=hJ hc j b;have h6:aO D b+az P b=0:=by
   rcases E0 (aO D b+az P b)with g|g
   ·exact g
   ·have:=(I.bnd b g).2;omega
  rw[U]at W;exact L b hb (by have:=o b;omega)
 ·intro s hs;exact(gO (p:=p) (q:=q) hp s hs).1
 ·intro s hs l hsp;refine⟨J,?_⟩;have X:=(gO (p:=p) (q:=q) (h:=h) (c:=c) hp s hs).2;rcases hq with hq|⟨G8,G9⟩|hq
  ·exact qb hf hq st y A l
  ·have e:=X.2 G8 l hsp;subst e;intro d z m Y;cases st with
   |nil =>cases y;simp only[cV,hf]at A;cases A;exact G9 d z m Y
   |cons a st=>exact(C (by simp)).2 d z m Y
  ·exact absurd hsp (X.1 hq l)
 ·intro b r hb;exact Z.same b r hb
theorem Inv.storeNode {cx:Cx}{D:DSt}{P:List (DT×Value)}{tm:Array Value}{w:World}(I:Inv cx D P tm w){h c:Nat}{t:DT}(hc:am D h c=some t)(a:t.isOwn=true)
  {st:List (Nat×Nat)} {k:Kd} {d:Dec} {z:Nat} {rows:List (List DT)} (r:getN t st=some (.s k d z rows)) {i off:Nat} {row us:List DT} {ys:List Value} (hi:rows[i]?=some row)
  (G:Got cx D w P us ys) (j:∀u∈us,u.fine=true) (A:off+us.length≤row.length) (B:Bool)
  (C:B=true→∀c,off≤c→c<off+us.length→∀t,row[c]?=some t→t.flat=true):
  (∃y e lo l,w.heap[d.b]?=some (.cells y e (lo,l))∧d.o+i*z+off+ys.length≤y.size∧∀x,d.o+i*z+off≤x→x<d.o+i*z+off+ys.length→¬(lo≤x∧x<l)) ∧
  ∃D',bU (setRow i off us) (St.dead (bM h c) (qSt B h c) D) h c st=some D'∧Inv cx D' [] tm (w.setCells d.b (d.o+i*z+off) ys):=by
 obtain⟨n,⟨M,O,U⟩,N⟩:=NodeOk.setRow I hc a r hi G j A;refine⟨n,?_⟩;obtain⟨y,e,lo,l,hh,F,V⟩:=n;obtain⟨f1,f2,f3,f4,f5,f6⟩:=eY d.b e (lo,l) ys (d.o+i*z+off) w y hh F;have Q:i<rows.length:=by
  rcases Em i rows.length with g|g
  ·exact g
  ·rw[Ek g]at hi;cases hi
 have W:(T.s k d z rows:DT).isOwn=true:=by obtain⟨s,hs,H,hr,J,R⟩:=be hc;have:=OwnT.getN st ((I.mem s H).2.1 t J a) r;cases this<;>rfl
 have q:∀b,(bl (.s k d z (rows.set i (ao row off us)):DT)).count b≤(bl (.s k d z rows:DT)).count b+az P b:=by
  intro b;have S:=G.cnt b;have h2:=iL bl row us off b;have h3:(us.flatMap bl).count b≤(us.flatMap ownR).count b:=by
   have:us.flatMap bl=us.flatMap ownR:=by
    rw[Gh,Gh,EM fun u X=>?_];rcases oM (j u X)with g|g
    ·simp[ownR,g]
    ·simp[ownR,g]
   rw[this];exact EQ _
  have h4:=aV (fun x:List DT=>x.flatMap bl) (ao row off us) b rows i row hi;rw[bR,bR,ED,ED];omega
 refine I.updNode hc a r (f:=setRow i off us) ?_ N (fun _=>by cases k<;>first|rfl|cases W) (by simp[bM]) ?_ ?_ ?_ (by omega) f4 f5 f6 (fun p Y=>by cases Y)
 ·simp only[setRow,hi,Eg];rw[Ej A]
 ·cases B with
  |true =>left;exact tW hi A (C rfl)
  |false =>right;left;refine⟨by simp[qSt,gA],?_⟩;rintro d z m ⟨k1,K,Z,g2⟩;cases Z;exact⟨_,_,rfl,by simpa using g2⟩
 ·intro b;have S:=q b;rw[bw];split
  ·omega
  ·rename_i L;have h5:=hJ hc a b;have h6:aO D b+az P b=0:=by
    rcases E0 (aO D b+az P b)with g|g
    ·exact g
    ·exact absurd (I.bnd b g).2 L
   have h7:=dY st r b;omega
 ·intro b hb v;have S:=q b;rw[bw]at v;have h5:=hJ hc a b;have h6:aO D b+az P b=0:=by
   rcases E0 (aO D b+az P b)with g|g
   ·exact g
   ·have:=(I.bnd b g).2;omega
  have h7:=dY st r b;omega
section
variable  {δ β : Type}
def dH (D:St δ β)(p:Sl δ β)(us:List (T δ)):Option (St δ β):=
 match p with
 | .pb h off =>
  match D[h]? with
  |some (.box b ts)=>
   if off+us.length≤ts.length then
    some ((St.dead (atR h off us.length) (qR h off us.length) D).set h (.box b (ao (ts.map (T.dead (atR h off us.length))) off (us.map (T.dead (atR h off us.length))))))
   else none
  |_=>none
 | .pe h c st i off =>
  if us.all T.fine then
   match am D h c with
   |some t =>
    if t.isOwn then
     match getN t st with
     |some (.s _ _ _ rows)=>
      match rows[i]? with
      |some row =>
       if off+us.length≤row.length then
        bU (setRow i off us) (St.dead (bM h c) (qSt (((row.drop off).take us.length).all T.flat) h c) D) h c st
       else none
      |none=>none
     |_=>none
    else none
   |none=>none
  else none
 |_=>none
def jE (M:Mk δ β)(tab:Tab)(D:St δ β)(t:Nat)(p x:Operand)(tk:Bool):Option (St δ β):=
 match tab.ti t,cellsOf M D x tk with
 |some ti,some (_,us,D1)=>if us.length=ti.size∧0<us.length then(opd M.nil D1 p).bind fun p=>dH D1 p us else none
 |_,_=>none
end
theorem Inv.cellsOf {cx:Cx}{D:DSt}{a:Act}{w:World}(I:Inv cx D [] a.tmps w){x:Operand}{tk g:Bool}{ts:List DT}{D':DSt}(e:cellsOf mkD D x tk=some (g,ts,D')):
  ∃ys P,Inv cx D' P a.tmps w∧Got cx D' w P ts ys∧bd g (a.eval x) ys:=by
 unfold Am.cellsOf at e;split at e
 ·exact I.cellsTake e
 ·rw[Ei]at e;obtain⟨⟨d,ts'⟩,h,e⟩:=e;cases e;obtain⟨ys,b,c⟩:=I.cellsCopy h;exact⟨ys,[],I,b,c⟩
theorem rE {P:Program}{tab:Tab}(ok:aK P tab){cx:Cx}{D1 D':DSt}{a:Act}{w:World}{I:List (DT×Value)}(r:Inv cx D1 I a.tmps w){t:Nat}{ti:TI}{p:Operand}{o:Value}{g:Bool}{us:List DT}{ys:List Value}
  (s:tab.ti t=some ti) (G:Got cx D1 w I us ys) (hv:bd g o ys) (u:us.length=ti.size∧0<us.length) {J:DSl} (Q:Am.opd mkD.nil D1 p=some J) (e:dH D1 J us=some D'):
  ∃w',(Instr.storeAt t (a.eval p) o).run P w = .ok () w'∧Inv cx D' [] a.tmps w':=by
 have K:=r.opd (a:=a) Q;have L:=G.v.1;have q:g=false→o.oneCell'=true:=by
  intro q;subst q;have:ys=[o]:=by simpa[bd]using hv
  exact G.v.cells1 _ (by rw[this];simp)
 have j:=Tab.ok ok s;unfold dH at e;split at e
 ·rename_i h off;split at e
  case h_2=>cases e
  rename_i b ts hb;split at e
  case isFalse=>cases e
  rename_i x;cases e;obtain⟨⟨c,e,lo,hi,y,A,B⟩,C⟩:=r.storeBox hb G x u.2;obtain⟨W,ts',l,D⟩:=K.val;rw[hb]at l;cases l;refine⟨_,?_,C⟩;rw[D];exact oZ j y hv q (by omega) A B G.v.cells1
 ·rename_i h c st i off;split at e
  case isFalse=>cases e
  rename_i f;split at e
  case h_2=>cases e
  rename_i X m;split at e
  case isFalse=>cases e
  rename_i n;split at e
  case h_2=>cases e
  rename_i k d z rows M;split at e
  case h_2=>cases e
  rename_i row hi;split at e
  case isFalse=>cases e
  rename_i x;obtain⟨⟨Y,Z,lo,R,y,A,B⟩,D2,F,C⟩:=r.storeNode m n M hi G (by simpa using f) x (((row.drop off).take us.length).all T.flat) (fun hs c S U t V=>by rw[Eo]at hs;refine hs t (Ef (i:=c-off) ?_);rw[Fe,Ej (by omega),E4,show off+(c-off)=c by omega];exact V);rw[F]at e;cases e;obtain⟨d',z',n',⟨t1,N,q2,k2,H,O,q4⟩,_,D⟩:=K.val;rw[m]at N;cases N;rw[M]at O;cases O;refine⟨_,?_,C⟩;rw[D];exact oZ j y hv q (by omega) A B G.v.cells1
 ·cases e
theorem vE {P:Program}{tab:Tab}(ok:aK P tab){cx:Cx}{D D':DSt}{a:Act}{w:World}(I:Inv cx D [] a.tmps w){t:Nat}{p x:Operand}{tk:Bool}
  (e:jE mkD tab D t p x tk=some D'):∃w',(Instr.storeAt t (a.eval p) (a.eval x)).run P w = .ok () w'∧Inv cx D' [] a.tmps w':=by
 unfold jE at e;split at e
 case h_2=>cases e
 rename_i ti g us D1 b hc;split at e
 case isFalse=>cases e
 rename_i c;rw[Eh]at e;obtain⟨h,d,e⟩:=e;obtain⟨ys,i,f,G,hv⟩:=I.cellsOf hc;exact rE ok f b G hv c d e
section
structure gq (δ β:Type) where
 box:β
 row:Nat→δ
 app:δ→Nat→Nat→Nat→δ
 str:Nat→Nat→δ
def frD (w:World):gq Dec (Nat×Nat):=⟨(w.heap.size,0),fun cap=>⟨w.heap.size,0,cap,false,none⟩,fun d n m e=>if n+m≤d.cap then d else⟨w.heap.size,0,grownCap w (n+m) d.cap e,false,none⟩,fun n e=>⟨w.heap.size,0,grownCap w n 0 e,false,none⟩⟩
def frU:gq Unit Unit:=⟨(),fun _=>(),fun _ _ _ _=>(),fun _ _=>()⟩
section
variable  {δ β : Type}
def iv (M:Mk δ β)(F:gq δ β)(tab:Tab)(D:St δ β)(dst:Option Nat)(t:Nat):Option (St δ β):=
 match tab.ti t,dst with
 |some ti,some d=>if d<D.length then some (aE D (some d) (.box F.box (ti.zero.map (T.inj M.nil))))else none
 |_,_=>none
def ox (M:Mk δ β)(F:gq δ β)(D:St δ β)(dst:Option Nat)(x:Operand)(tk:Bool):Option (St δ β):=
 match cellsOf M D x tk,dst with
 |some (_,us,D1),some d=>if d<D1.length then some (aE D1 (some d) (.box F.box us))else none
 |_,_=>none
def iA (D:St δ β)(dst:Option Nat)(x:Operand)(i:Nat):Option (St δ β):=
 match x,dst with
 | .tmp t,some d =>
  match D[t]? with
  |some (.tup rs)=>
   match rs[i]? with
   |some (g,ts)=>
    if d<D.length∧ts.all T.noLent then
     (dw g ts).map fun s=>aE (D.set t (.tup (rs.set i (g,ts.map T.hole)))) (some d) s
    else none
   |none=>none
  |_=>none
 |_,_=>none
def fH (D:St δ β)(x:Operand):Option Nat :=
 match x with
 | .tmp t=>(match D[t]? with|some (.box _ _)=>some t|some (.pb h 0)=>some h|_=>none)
 |_=>none
def ie (D:St δ β):List Operand→Option (List Nat)|[]=>some []|x::xs=>(fH D x).bind fun h=>(ie D xs).map fun hs=>h::hs
def mo (D:St δ β)(f:FuncId)(xs:List Operand):Option (Sl δ β):=(ie D xs).map fun hs=>.clo (.fn f) hs
end
variable  {P : Program}{tab : Tab}
theorem eC (w:World)(e:TypeId)(cs:Array Value):(newRow e cs).run P w = .ok ⟨w.heap.size,0,none⟩ (w.alloc (.cells cs e)):=by simp[newRow]
theorem oD (ok:aK P tab){cx:Cx}{D D':DSt}{a:Act}{w:World}(I:Inv cx D [] a.tmps w){dst:Option Nat}{t:Nat}(e:iv mkD (frD w) tab D dst t=some D'):
  ∃y w',(Instr.alloc t true (.tuple #[])).run P w = .ok y w'∧Inv cx D' [] (a.put dst y).tmps w':=by
 unfold iv at e;split at e
 case h_2=>cases e
 rename_i ti d b;split at e
 case isFalse=>cases e
 rename_i hd;cases e;obtain⟨z,c,f,g⟩:=mc (Tab.ok ok b) w;have G:=ez (P:=P) (t:=t) (w:=w) (cx:=cx) (D:=D) (ys:=z.cells.toList) g;rw[←f]at G;have h:=I.newBox (a:=a) (e:=t) G hd;refine⟨_,_,?_,h⟩;simp[Instr.alloc,c,newVar,eC]
theorem xH {cx:Cx}{D D':DSt}{a:Act}{w:World}(I:Inv cx D [] a.tmps w){dst:Option Nat}{t:Nat}{x:Operand}{tk:Bool}(e:ox mkD (frD w) D dst x tk=some D'):
  ∃y w',(Instr.box t (a.eval x)).run P w = .ok y w'∧Inv cx D' [] (a.put dst y).tmps w':=by
 unfold ox at e;split at e
 case h_2=>cases e
 rename_i g us D1 d hc;split at e
 case isFalse=>cases e
 rename_i hd;cases e;obtain⟨ys,i,f,G,hv⟩:=I.cellsOf hc;have b:(a.eval x).cells=ys.toArray:=by
  cases g with
  |true=>simp only[bd,EV]at hv;rw[hv];rfl
  |false =>
   have:ys=[a.eval x]:=by simpa[bd]using hv
   have c:=G.v.cells1 _ (by rw[this];simp:a.eval x∈ys);rw[this];cases h:a.eval x<;>first|rfl|(rw[h]at c;simp[Value.oneCell']at c)
 refine⟨_,_,?_,f.newBox (e:=t) G hd⟩;simp[Instr.box,newVar,eC,b]
section
variable  {δ β : Type}
def bm (M:Mk δ β)(D:St δ β)(pl:List (Nat×Nat)):List (Nat×Operand)→List (T δ)→Option (List (T δ))
 |[],ts=>some ts
 |(i,x)::r,ts =>
  match pl[i]?,cellsCopy M D x with
  |some (off,size),some (_,us)=>if us.length=size∧off+us.length≤ts.length then bm M D pl r (ao ts off us)else none
  |_,_=>none
def gt (M:Mk δ β)(tab:Tab)(D:St δ β)(t:Nat)(a:List (Nat×Operand)):Option (Sl δ β):=
 match tab.ti t,tab.pl t with
 |some ti,some pl=>(bm M D pl a (ti.zero.map (T.inj M.nil))).map fun ts=>.agg ts
 |_,_=>none
end
theorem Got.splice {cx:Cx}{D:DSt}{w:World}{ts us:List DT}{xs ys:List Value}(G:Got cx D w [] ts xs)(H:Got cx D w [] us ys){off:Nat}(c:off+us.length≤ts.length):
  Got cx D w [] (ao ts off us) (ao xs off ys):=by
 refine⟨G.v.splice H.v c,fun t a=>?_,fun t a=>?_,fun t a=>?_,fun b=>?_⟩
 ·rcases cR a with h|h
  ·exact G.holds t h
  ·exact H.holds t h
 ·rcases cR a with h|h
  ·exact G.own t h
  ·exact H.own t h
 ·rcases cR a with h|h
  ·exact G.kind t h
  ·exact H.kind t h
 ·have d:=iL ownR ts us off b;have e:=G.cnt b;have f:=H.cnt b;rw[bw]at *;omega
theorem kD {cx:Cx}{D:DSt}{a:Act}{w:World}(I:Inv cx D [] a.tmps w)(pl:List (Nat×Nat)):∀(b:List (Nat×Operand)){ts ts':List DT}{xs:List Value},Got cx D w [] ts xs →
  bm mkD D pl b ts=some ts'→∃ys,Instr.fill (pl.toArray[·]?) xs.toArray (b.map fun p=>(p.1,a.eval p.2))=some ys.toArray∧Got cx D w [] ts' ys
 |[],ts,ts',xs,G,e=>by cases e;exact⟨xs,rfl,G⟩
 |(i,x)::r,ts,ts',xs,G,e=>by
  simp only[bm]at e;split at e
  case h_2=>cases e
  rename_i off size g us h hc;split at e
  case isFalse=>cases e
  rename_i j;obtain⟨ys,H,hv⟩:=I.cellsCopy hc;have c:(a.eval x).cells=ys.toArray:=by
   cases g with
   |true=>simp only[bd,EV]at hv;rw[hv];rfl
   |false =>
    have:ys=[a.eval x]:=by simpa[bd]using hv
    have d:=H.v.cells1 _ (by rw[this];simp:a.eval x∈ys);rw[this];cases k:a.eval x<;>first|rfl|(rw[k]at d;simp[Value.oneCell']at d)
  obtain⟨l,d,m⟩:=kD I pl r (G.splice H j.2) e;refine⟨l,?_,m⟩;have n:=G.v.1;have o:=H.v.1;have f:pl.toArray[i]?=some (off,size):=by simpa using h
  simp only[EB,Instr.fill,f,c];rw[Eu (by simp;omega)];rw[cP ys.toArray off xs.toArray (by simp;omega)];simpa using d
theorem oE {P:Program}{tab:Tab}(ok:aK P tab){cx:Cx}{D:DSt}{a:Act}{w:World}(I:Inv cx D [] a.tmps w){t:Nat}{c:Array (Nat×Operand)}{s:DSl}(e:gt mkD tab D t c.toList=some s):
  ∃y,(Instr.build t (c.map fun(i,x)=>(i,a.eval x))).run P w = .ok y w∧Tells cx D w s y:=by
 unfold gt at e;split at e
 case h_2=>cases e
 rename_i ti pl g h;rw[Ei]at e;obtain⟨ts,j,rfl⟩:=e;obtain⟨i,d,z,k,q,l,r,u,m,A,n⟩:=cW (Tab.ok ok g);have G:=ez (P:=P) (t:=t) (w:=w) (cx:=cx) (D:=D) (ys:=z.cells.toList) n;rw[←m]at G;obtain⟨ys,o,H⟩:=kD I pl c.toList G j;refine⟨.agg ys.toArray,run_build w t _ _ ?_,⟨⟨ys.toArray,rfl,by simpa using H.v⟩,⟨H.holds,H.own,trivial⟩,H.kind,?_⟩⟩
 ·have f:=Tab.okPl ok h;unfold il at f;split at f
  ·rename_i fs p;unfold Program.built;rw[k,p];simp only[l,f];simpa using o
  ·cases f
 ·have:∀b,(ts.flatMap ownR).count b=0:=fun b=>by have:=H.cnt b;rw[bw]at this;omega
  show ts.flatMap ownR=[];rw[Fk];intro b hb;have:=this b;have:=Ew.2 hb;omega
theorem Inv.swap {cx:Cx}{D:DSt}{P Q:List (DT×Value)}{tm:Array Value}{w:World}(I:Inv cx D P tm w){t:Nat}{d s:DSl}(c:D[t]?=some d)(i:∀s'∈D,¬bz t s')(j:¬bz t s)
  (hv:VS D s (tm.getD t undef)) (l:MemS w s) (m:cl cx D s)
  (n:∀p∈Q,VT p.1 p.2∧Holds w p.1∧(p.1.isOwn=true→OwnT w p.1)∧(p.1.isOwn=false→∀x∈bl p.1,cx.far x))
  (o:∀b,(ownBl s).count b+az Q b≤(ownBl d).count b+az P b):Inv cx (D.set t s) Q tm w:=by
 have f:t<D.length:=by
  rcases Em t D.length with g|g
  ·exact g
  ·rw[Ek g]at c;cases c
 have a:∀b,aO (D.set t s) b+az Q b≤aO D b+az P b:=by intro b;have k:=aV ownBl s b D t d c;have q:=o b;unfold aO;omega
 refine⟨by have:=I.size;simpa using this,fun u s' hs=>?_,fun s' hs=>?_,fun s' hs=>?_,n,fun b=>?_,fun b hb=>?_,I.frame⟩
 ·by_cases e:u=t
  ·subst e;rw[Ep f]at hs;cases hs;exact nk j hv
  ·rw[Es (fun h=>e h.symm)]at hs;exact nk (i s' (Ef hs)) (I.val u s' hs)
 ·rcases Fd hs with h|rfl
  ·exact I.mem s' h
  ·exact l
 ·rcases Fd hs with h|rfl
  ·exact jQ (i s' h) (I.kind s' h)
  ·exact jQ j m
 ·have k:=a b;have q:=I.once b;omega
 ·have k:=a b;exact I.bnd b (by omega)
theorem Inv.tup_refs {cx:Cx}{D:DSt}{P:List (DT×Value)}{tm:Array Value}{w:World}(I:Inv cx D P tm w){t:Nat}{rs:List (Bool×List DT)}(x:D[t]?=some (.tup rs)){s:DSl}{y:Value}(hv:VS D s y)(q:cl cx D s):¬bz t s:=by
 have hc:∀c,am D t c=none:=fun c=>by simp[am,x,aD]
 have j:∀(us:List DT),(∀u∈us,aS cx D u)→¬ ∃u∈us,∃c o d z r,u = .s (.lent t c o) d z r:=by rintro us h ⟨u,v,c,o,d,z,r,rfl⟩;obtain⟨t',m,_⟩:=h _ v;rw[hc]at m;cases m
 intro l;cases s with
 |any=>exact l
 |one u=>obtain⟨c,o,d,z,r,rfl⟩:=l;exact j [_] (fun u v=>q u (by simpa[af]using v)) ⟨_,EN _,c,o,d,z,r,rfl⟩
 |agg ts=>exact j ts q l
 |box b ts=>exact j ts q l
 |al h c st lo len =>simp only[bz]at l;subst l;obtain⟨d,z,n,a,⟨t',m,_⟩,_⟩:=hv;rw[hc]at m;cases m
 |pe h c st i off =>simp only[bz]at l;subst l;obtain⟨d,z,n,⟨t',m,_⟩,_⟩:=hv;rw[hc]at m;cases m
 |pb h off =>simp only[bz]at l;subst l;obtain⟨b,ts,m,_⟩:=hv;rw[x]at m;cases m
 |im k b ts off =>
  cases k with
  |own=>exact l
  |far=>exact l
  |lent h c o =>simp only[bz]at l;subst l;obtain⟨t',m,_⟩:=q;rw[hc]at m;cases m
 |fni f caps=>exact l
 |clo f hs =>
  obtain⟨B,m,C,_⟩:=hv;obtain⟨i,hi⟩:=En l;obtain⟨b,hb⟩:∃b,B[i]?=some b:=by
   have:i<hs.length:=by
    rcases Em i hs.length with g|g
    ·exact g
    ·rw[Ek g]at hi;cases hi
   exact⟨_,El (by omega)⟩
  obtain⟨ts,A⟩:=C i t b hi hb;rw[x]at A;cases A
 |tup rs =>obtain⟨p,F,u,v,c,o,d,z,r,e⟩:=l;exact j (af (.tup rs)) q ⟨u,Eq.2 ⟨p,F,v⟩,c,o,d,z,r,e⟩
theorem vW {t:DT}{y:Value}(h:VT t y):VT t.hole y:=by
 cases t with
 |s k d z r=>cases k<;>first|exact h|exact h.one
 |_=>exact h
theorem zw (t:DT):t.hole.isOwn=false:=by
 cases t with
 |s k d z r=>cases k<;>rfl
 |_=>rfl
theorem w6 (t:DT):t.hole=t∨t.hole = .any:=by
 cases t with
 |s k d z r=>cases k<;>first|(left;rfl)|(right;rfl)
 |_=>left;rfl
theorem iF {cx:Cx}{D D':DSt}{t:DT}(a:t.noLent=true)(h:aS cx D t):aS cx D' t:=by
 cases t with
 |s k d z r=>cases k<;>first|exact h|cases a
 |_=>trivial
theorem rN {cx:Cx}{D D':DSt}{a:Act}{w:World}(I:Inv cx D [] a.tmps w){dst:Option Nat}{x:Operand}{i:Nat}(e:iA D dst x i=some D'):
  ∃y,(Instr.extract (a.eval x) i).run P w = .ok y w∧Inv cx D' [] (a.put dst y).tmps w:=by
 unfold iA at e;split at e
 case h_2=>cases e
 rename_i t d;split at e
 case h_2=>cases e
 rename_i rs hD;split at e
 case h_2=>cases e
 rename_i g ts hi;split at e
 case isFalse=>cases e
 rename_i hc;rw[Ei]at e;obtain⟨s,hs,rfl⟩:=e;obtain⟨hd,J⟩:=hc;rw[Eo]at J;have F:=Ef hD;obtain⟨A,V,N,l⟩:=I.val t _ hD;have L:=I.mem _ F;have M:∀u∈af (.tup rs:DSl),aS cx D u:=I.kind _ F;have X:i<rs.length:=by
  rcases Em i rs.length with q|q
  ·exact q
  ·rw[Ek q]at hi;cases hi
 have Y:A.toList[i]?=some A.toList[i]:=El (by omega);have B:=l i _ _ hi Y;obtain⟨ys,hv,K⟩:∃ys,bd g A.toList[i] ys∧VCells ts ys:=by
  unfold VPart at B;cases g with
  |true =>simp only[EV]at B;obtain⟨cs,n,o⟩:=B;exact⟨cs.toList,by simpa[bd]using n,o⟩
  |false =>simp only[EE,E3]at B;obtain⟨t',n,o⟩:=B;subst n;exact⟨[A.toList[i]],by simp[bd],.one o⟩
 have m:∀u∈ts,u∈af (.tup rs:DSl):=fun u c=>Eq.2 ⟨_,Ef hi,c⟩
 have H:∀(j:Nat)(r:Bool×List DT),(rs.set i (g,ts.map T.hole))[j]?=some r→(j=i∧r=(g,ts.map T.hole))∨(j≠i∧rs[j]?=some r):=by
  intro j r hj;by_cases e:j=i
  ·subst e;rw[Ep X]at hj;cases hj;exact .inl ⟨rfl,rfl⟩
  ·rw[Es (fun h=>e h.symm)]at hj;exact .inr ⟨e,hj⟩
 have f:∀u∈(rs.set i (g,ts.map T.hole)).flatMap (·.2),u∈af (.tup rs:DSl)∨u = .any:=by
  intro u c;obtain⟨r,hr,c⟩:=Eq.1 c;obtain⟨j,hj⟩:=En hr;rcases H j r hj with⟨_,rfl⟩|⟨_,hj⟩
  ·obtain⟨v,C,rfl⟩:=Ex.1 c;rcases w6 v with q|q
   ·rw[q];exact .inl (m v C)
   ·exact .inr q
  ·exact .inl (Eq.2 ⟨r,Ef hj,c⟩)
 have hV:VS D (.tup (rs.set i (g,ts.map T.hole))) (a.tmps.getD t undef):=by
  refine⟨A,V,by simpa using N,fun j r v hj C=>?_⟩;rcases H j r hj with⟨rfl,rfl⟩|⟨_,hj⟩
  ·have:=l j _ v hi C;unfold VPart at this ⊢;cases g with
   |true =>simp only[EV]at this ⊢;obtain⟨cs,n,o,h3⟩:=this;refine⟨cs,n,by simpa using o,fun k u y M V=>?_⟩;rw[Et,Ei]at M;obtain⟨u',Z,rfl⟩:=M;exact vW (h3 k u' y Z V)
   |false =>simp only[EE,E3]at this ⊢;obtain⟨t',n,o⟩:=this;subst n;exact⟨t'.hole,rfl,vW o⟩
  ·exact l j r v hj C
 have hK:cl cx D (.tup (rs.set i (g,ts.map T.hole)):DSl):=fun u c=>by
  rcases f u c with q|q
  ·exact M u q
  ·subst q;trivial
 have hM:MemS w (.tup (rs.set i (g,ts.map T.hole)):DSl):=by
  refine⟨fun u c=>?_,fun u c W=>?_,trivial⟩
  ·rcases f u c with q|q
   ·exact L.1 u q
   ·subst q;exact .any
  ·rcases f u c with q|q
   ·exact L.2.1 u q W
   ·subst q;cases W
 have O:∀p∈ts.zip ys,p.1∈ts∧VT p.1 p.2:=by intro p B;obtain⟨j,hj⟩:=En B;rw[FT]at hj;exact⟨Ef hj.1,K.2 j _ _ hj.1 hj.2⟩
 have R:=ig ts ys K.1;have I1:=I.swap (Q:=ts.zip ys) hD (fun s' S=>by obtain⟨u,c⟩:=En S;exact I.tup_refs hD (I.val u s' c) (I.kind s' S)) (I.tup_refs hD hV hK) hV
  hM hK
  (fun p B=>by
   obtain⟨n,o⟩:=O p B;refine⟨o,L.1 _ (m _ n),L.2.1 _ (m _ n),fun W x hx=>?_⟩;have G4:=M _ (m _ n);have G5:=J _ n;generalize p.1=u at *;cases u with
   |v x=>simp[bl]at hx
   |any=>simp[bl]at hx
   |s k d z r=>cases k<;>first|exact G4 x hx|(cases G5;done)|(cases W;done))
  (fun b=>by
   have n:(ts.flatMap ownR).count b+(ownBl (.tup (rs.set i (g,ts.map T.hole)):DSl)).count b=((ts.map T.hole).flatMap ownR).count b+(ownBl (.tup rs:DSl)).count b :=
    aV (fun r:Bool×List DT=>r.2.flatMap ownR) (g,ts.map T.hole) b rs i _ hi
   have o:((ts.map T.hole).flatMap ownR)=[]:=by rw[Ey];intro u c;obtain⟨v,_,rfl⟩:=Ex.1 c;exact cD (zw v)
   rw[o,GJ]at n;rw[R b,bw];omega)
 have G:Got cx (D.set t (.tup (rs.set i (g,ts.map T.hole)))) w (ts.zip ys) ts ys :=
  ⟨K,fun u c=>L.1 u (m u c),fun u c=>L.2.1 u (m u c),fun u c=>iF (J u c) (M u (m u c)),fun b=>by rw[R b];exact EQ _⟩
 have U:=I1.putGot (a:=a) G hv hs (dst:=some d) (fun t' h=>by cases h;simpa using hd) rfl;refine⟨A.toList[i],?_,U⟩;have G6:a.eval (.tmp t)= .tuple A:=V;rw[G6];have:A[i]?=some A.toList[i]:=by simp
 simp[Instr.extract,this]
section
variable  {δ β : Type}
def fc (M:Mk δ β)(D:St δ β)(z:Nat):List (Nat×Operand)→List (List (T δ))→Option (List (List (T δ)))
 |[],rows=>some rows
 |(i,x)::r,rows =>
  match cellsCopy M D x with
  |some (_,us)=>if us.length=z∧i<rows.length∧us.all T.fine=true then fc M D z r (rows.set i us)else none
  |none=>none
def cr (M:Mk δ β)(F:gq δ β)(tab:Tab)(D:St δ β)(dst:Option Nat)(t len:Nat)(a:List (Nat×Operand)):Option (St δ β):=
 match tab.ti t,dst with
 |some ⟨_,_,_,.slice e⟩,some d =>
  match tab.ti e with
  |some b =>
   if d<D.length∧b.size≠0∧b.zero.length=b.size∧len*b.size≤2 ^ 24 then
    (fc M D b.size a (List.replicate len (b.zero.map (T.inj M.nil)))).map fun rows=>aE D (some d) (.one (.s .own (F.row len) b.size rows))
   else none
  |none=>none
 |_,_=>none
def ct (M:Mk δ β)(F:gq δ β)(tab:Tab)(D:St δ β)(dst:Option Nat)(t:Nat)(l c:Operand):Option (St δ β):=
 match tab.ti t,dst,(opd M.nil D l).bind intOfSl,(opd M.nil D c).bind intOfSl with
 |some ⟨_,_,_,.slice e⟩,some d,some n,some k =>
  match tab.ti e with
  |some a =>
   if d<D.length∧a.size≠0∧a.zero.length=a.size then
    if 0≤n∧n≤k∧(a.bytes:Int)*k≤281474976710656∧k≤4611686018427387904 then
     some (aE D (some d) (.one (.s .own (F.row k.toNat) a.size (List.replicate n.toNat (a.zero.map (T.inj M.nil))))))
    else none
   else none
  |none=>none
 |_,_,_,_=>none
end
structure RowsAre (z:Nat)(rows:List (List DT))(cs:List Value):Prop where
 len:cs.length=rows.length*z
 row:∀(i:Nat)(row:List DT),rows[i]?=some row→row.length=z
 val:∀(i:Nat)(row:List DT)(j:Nat)(t:DT),rows[i]?=some row→row[j]?=some t→∃y,cs[i*z+j]?=some y∧VT t y
theorem RowsAre.set {z:Nat}{rows:List (List DT)}{cs:List Value}(h:RowsAre z rows cs){i:Nat}(hi:i<rows.length){us:List DT}{ys:List Value}(hv:VCells us ys)(hz:us.length=z):
  i*z+ys.length≤cs.length∧RowsAre z (rows.set i us) (ao cs (i*z) ys):=by
 have f:(i+1)*z≤rows.length*z:=Fj _ hi;rw[FC,Nat.one_mul]at f;have e:=hv.1;have d:i*z+ys.length≤cs.length:=by rw[h.len];omega
 refine⟨d,⟨by rw[fy d,h.len];simp,fun b row a=>?_,fun b row j t a c=>?_⟩⟩
 ·by_cases q:b=i
  ·subst q;rw[Ep hi]at a;cases a;exact hz
  ·rw[Es (fun g=>q g.symm)]at a;exact h.row b row a
 ·by_cases q:b=i
  ·subst q;rw[Ep hi]at a;cases a;have l:j<us.length:=by
    rcases Em j us.length with g|g
    ·exact g
    ·rw[Ek g]at c;cases c
   refine⟨ys[j]'(by omega),?_,hv.2 j t _ c (El (by omega))⟩;rw[cf d,Eu (by omega),Ej (by omega),show b*z+j-b*z=j by omega];exact El (by omega)
  ·rw[Es (fun g=>q g.symm)]at a;obtain⟨y,m,n⟩:=h.val b row j t a c;refine⟨y,?_,n⟩;have k:j<z:=by
    have:=h.row b row a;rcases Em j row.length with g|g
    ·omega
    ·rw[Ek g]at c;cases c
   rw[fz d ?_]
   ·exact m
   ·intro o;rcases Ge b i with g|g|g
    ·have:=iD g k;omega
    ·exact q g
    ·have:=iD (j:=ys.length-1) (z:=z) g (by omega);omega
theorem RowsAre.init {e:List DT}{a:Array Value}(hv:VCells e a.toList)(hz:a.size≠0)(n:Nat):
  RowsAre a.size (List.replicate n e) ((Array.range (n*a.size)).map (fun i=>a[i % a.size]!)).toList:=by
 have l:e.length=a.size:=by have:=hv.1;simpa using this
 refine⟨by simp,fun i row hr=>?_,fun i row j t hr f=>?_⟩
 ·have:=Ef hr;rw[Fa this];exact l
 ·have h:i<n:=by
   rcases Em i n with g|g
   ·exact g
   ·rw[Ek (by simpa using g)]at hr;cases hr
  have c:row=e:=Fa (Ef hr);subst c;have b:j<a.size:=by
   rcases Em j row.length with g|g
   ·omega
   ·rw[Ek g]at f;cases f
  have k:i*a.size+j<n*a.size:=by have:(i+1)*a.size≤n*a.size:=Fj _ h;rw[FC]at this;omega
  have d:(i*a.size+j) % a.size=j:=by rw[Nat.mul_comm,Nat.mul_add_mod];exact Nat.mod_eq_of_lt b
  refine⟨a[j],?_,hv.2 j t _ f (by simp[b])⟩;simp only[Array.toList_map,Array.toList_range,Et,Fn k,Ee,d];simp[b]
structure pa (w:World)(t:DT):Prop where
 fine:t.fine=true
 holds:Holds w t
 own:t.isOwn=true→OwnT w t
 bl:bl t=[]
theorem Got.bare {cx:Cx}{D:DSt}{w:World}{ts:List DT}{ys:List Value}(G:Got cx D w [] ts ys)(hf:∀t∈ts,t.fine=true):∀t∈ts,pa w t:=by
 intro t a;refine⟨hf t a,G.holds t a,G.own t a,?_⟩;rcases oM (hf t a)with h|h
 ·rw[Fk];intro b hb;have c:=G.cnt b;rw[bw]at c;have d:0<(ts.flatMap ownR).count b:=Ew.2 (Eq.2 ⟨t,a,by simp only[ownR,h,EV];exact hb⟩);omega
 ·exact h
theorem eI {cx:Cx}{D:DSt}{w:World}{P:List (DT×Value)}{us:List DT}{ys:List Value}{g:Bool}{y:Value}(H:Got cx D w P us ys)(hv:bd g y ys):y.cells=ys.toArray:=by
 cases g with
 |true=>simp only[bd,EV]at hv;rw[hv];rfl
 |false =>
  have:ys=[y]:=by simpa[bd]using hv
  have a:=H.v.cells1 _ (by rw[this];simp:y∈ys);rw[this];cases y<;>first|rfl|(simp[Value.oneCell']at a)
theorem iJ {cx:Cx}{D:DSt}{a:Act}{w:World}(I:Inv cx D [] a.tmps w)(z:Nat):∀(c:List (Nat×Operand)){rows b:List (List DT)}{cs:List Value},RowsAre z rows cs →
  (∀row∈rows,∀t∈row,pa w t)→fc mkD D z c rows=some b →
  ∃d,Instr.fill (fun i=>some (i*z,z)) cs.toArray (c.map fun p=>(p.1,a.eval p.2))=some d.toArray∧RowsAre z b d∧b.length=rows.length∧∀row∈b,∀t∈row,pa w t
 |[],rows,b,cs,R,B,e=>by cases e;exact⟨cs,rfl,R,rfl,B⟩
 |(i,x)::r,rows,b,cs,R,B,e=>by
  simp only[fc]at e;split at e
  case h_2=>cases e
  rename_i g us hc;split at e
  case isFalse=>cases e
  rename_i h;obtain⟨ys,H,hv⟩:=I.cellsCopy hc;have f:=eI H hv;have hf:∀t∈us,t.fine=true:=by have:=h.2.2;rwa [Eo]at this
  obtain⟨j,l⟩:=R.set h.2.1 H.v h.1;obtain⟨d,m,n,o,s⟩:=iJ I z r l (fun row u t k=>by
   rcases Fd u with q|q
   ·exact B row q t k
   ·subst q;exact H.bare hf t k) e
  refine⟨d,?_,n,by rw[o];simp,s⟩;have y:=H.v.1;simp only[EB,Instr.fill,f];rw[Eu (by simp;omega)];rw[cP ys.toArray (i*z) cs.toArray (by simpa using j)];simpa using m
theorem pd (ok:aK P tab){cx:Cx}{D D':DSt}{a:Act}{w:World}(I:Inv cx D [] a.tmps w){dst:Option Nat}{t len:Nat}{c:Array (Nat×Operand)}
  (e:cr mkD (frD w) tab D dst t len c.toList=some D'):∃y w',(Instr.buildSlice t len (c.map fun(i,x)=>(i,a.eval x))).run P w = .ok y w'∧Inv cx D' [] (a.put dst y).tmps w':=by
 unfold cr at e;split at e
 case h_2=>cases e
 rename_i sz U ze m d H;split at e
 case h_2=>cases e
 rename_i l s;split at e
 case isFalse=>cases e
 rename_i hc;rw[Ei]at e;obtain⟨rows,V,rfl⟩:=e;obtain⟨hd,J,K,O⟩:=hc;have W:=cU (Tab.ok ok H) rfl;obtain⟨z,X,L,Y⟩:=mc (Tab.ok ok s) w;have hs:=fU (Tab.ok ok s) w;have G:=ez (P:=P) (t:=m) (w:=w) (cx:=cx) (D:=D) (ys:=z.cells.toList) Y;rw[←L]at G;have A:z.cells.size=l.size:=by rw[←K,L];simp[b7]
 have q:∀t∈l.zero.map (T.inj nilD),t.fine=true:=by intro t r;rw[L]at r;simp only[Ex,b7,Ff]at r;obtain⟨u,⟨j,hj,rfl⟩,rfl⟩:=r;unfold zT;split<;>rfl
 have Q:=RowsAre.init G.v (by omega) len;rw[A]at Q;obtain⟨f,f1,R,f3,B⟩:=iJ I l.size c.toList Q (fun row M t r=>by have:=Fa M;subst this;exact G.bare q t r) V;have k:rows.length=len:=by rw[f3];simp
 have C:(Instr.buildSlice t len (c.map fun(i,x)=>(i,a.eval x))).run P w = .ok (.slice (some ⟨w.heap.size,0,none⟩) len len) (w.alloc (.cells f.toArray m)):=by
  have n:Instr.fill (fun i=>some (i*l.size,l.size)) ((Array.range (len*l.size)).map fun i=>z.cells[i % l.size]!) (c.toList.map fun p=>(p.1,a.eval p.2))=some f.toArray:=by rw[Array.toArray_toList]at f1;exact f1
  simp only[Instr.buildSlice,run_underlying W,Sem.run_bind,Result.andThen_ok,hs];rw[Eu (by omega)];by_cases F:len*l.size=0
  ·have Z:len=0:=by
    rcases Nat.mul_eq_zero.1 F with h|h
    ·exact h
    ·exact absurd h J
   rw[F]at n;have e0:(Array.range 0).map (fun i=>z.cells[i % l.size]!)= #[]:=by simp
   rw[e0]at n;simp only[F,EV,Sem.run_pure,Result.andThen_ok];have e1:∀N:Array Value,(Array.range 0).map (fun i=>N[i % N.size]!)= #[]:=fun N=>by simp
   simp only[e1];simp[n,eC]
  ·simp[F,X,A,n,eC]
 have g:=Grew.alloc w (.cells f.toArray m);have o:(w.alloc (.cells f.toArray m)).heap[w.heap.size]?=some (.cells f.toArray m (0,0)):=by show(w.heap.push _)[w.heap.size]?=_;simp
 have S:∀(i:Nat)(row:List DT)(j:Nat)(t:DT),rows[i]?=some row→row[j]?=some t→pa w t:=fun i row j t hi hj=>B row (Ef hi) t (Ef hj)
 have hH:Holds (w.alloc (.cells f.toArray m)) (.s .own ((frD w).row len) l.size rows):=by refine .s _ _ _ _ rfl rfl _ m (0,0) o (by simp[frD,k]) R.row (fun i row j t hi hj=>?_) (fun i row j t hi hj=>(S i row j t hi hj).holds.frame fun b _ hb=>g.same b hb);obtain⟨y,y1,y2⟩:=R.val i row j t hi hj;exact⟨y,by simpa[frD]using y1,y2⟩
 have hO:OwnT (w.alloc (.cells f.toArray m)) (.s .own ((frD w).row len) l.size rows):=by refine .s _ _ _ rfl rfl _ m 0 0 o (by simp[frD,k]) (by simp[frD,R.len,k]) (fun x _ _ h=>by omega) (fun i row j t hi hj=>?_);have:=S i row j t hi hj;exact(jR this.fine this.own).frame fun b _ hb=>g.same b hb
 refine⟨_,_,C,I.newRows (P:=[]) g (by simp) (d:=(frD w).row len) ⟨rfl,rfl⟩ hH hO (fun b=>?_) hd (by simp[VT,Dec.addr,frD,k])⟩;have:rows.flatMap (fun x=>x.flatMap Am.bl)=[]:=by rw[Ey];intro row M;rw[Ey];intro t r;exact(B row M t r).bl
 rw[this];simp
structure xE (w w':World)(t:DT)(v:Value):Prop where
 val:VT t v
 holds:Holds w' t
 own:OwnT w' t
 once:∀b,(bl t).count b≤1
 new:∀b∈bl t,w.heap.size≤b∧b<w'.heap.size
theorem qz (ok:aK P tab){cx:Cx}{D D':DSt}{a:Act}{w:World}(I:Inv cx D [] a.tmps w){dst:Option Nat}{t len:Nat}{c:Array (Nat×Operand)}
  (e:cr mkD (frD w) tab D dst t len c.toList=some D'):∃y w' d Q z rows,dst=some d∧D'=aE D (some d) (.one (.s .own Q z rows))∧(Instr.buildSlice t len (c.map fun(i,x)=>(i,a.eval x))).run P w = .ok y w'∧Grew w w'∧xE w w' (.s .own Q z rows) y:=by
 unfold cr at e;split at e
 case h_2=>cases e
 rename_i sz W ze m d J;split at e
 case h_2=>cases e
 rename_i l A;split at e
 case isFalse=>cases e
 rename_i hc;rw[Ei]at e;obtain⟨rows,X,rfl⟩:=e;obtain⟨hd,K,L,S⟩:=hc;have Y:=cU (Tab.ok ok J) rfl;obtain⟨z,Z,M,g3⟩:=mc (Tab.ok ok A) w;have hs:=fU (Tab.ok ok A) w;have G:=ez (P:=P) (t:=m) (w:=w) (cx:=cx) (D:=D) (ys:=z.cells.toList) g3;rw[←M]at G;have C:z.cells.size=l.size:=by rw[←L,M];simp[b7]
 have r:∀t∈l.zero.map (T.inj nilD),t.fine=true:=by intro t s;rw[M]at s;simp only[Ex,b7,Ff]at s;obtain⟨u,⟨j,hj,rfl⟩,rfl⟩:=s;unfold zT;split<;>rfl
 have U:=RowsAre.init G.v (by omega) len;rw[C]at U;obtain⟨f,f1,R,f3,B⟩:=iJ I l.size c.toList U (fun row N t s=>by have:=Fa N;subst this;exact G.bare r t s) X;have k:rows.length=len:=by rw[f3];simp
 have F:(Instr.buildSlice t len (c.map fun(i,x)=>(i,a.eval x))).run P w = .ok (.slice (some ⟨w.heap.size,0,none⟩) len len) (w.alloc (.cells f.toArray m)):=by
  have n:Instr.fill (fun i=>some (i*l.size,l.size)) ((Array.range (len*l.size)).map fun i=>z.cells[i % l.size]!) (c.toList.map fun p=>(p.1,a.eval p.2))=some f.toArray:=by rw[Array.toArray_toList]at f1;exact f1
  simp only[Instr.buildSlice,run_underlying Y,Sem.run_bind,Result.andThen_ok,hs];rw[Eu (by omega)];by_cases H:len*l.size=0
  ·have G4:len=0:=by
    rcases Nat.mul_eq_zero.1 H with h|h
    ·exact h
    ·exact absurd h K
   rw[H]at n;have e0:(Array.range 0).map (fun i=>z.cells[i % l.size]!)= #[]:=by simp
   rw[e0]at n;simp only[H,EV,Sem.run_pure,Result.andThen_ok];have e1:∀O:Array Value,(Array.range 0).map (fun i=>O[i % O.size]!)= #[]:=fun O=>by simp
   simp only[e1];simp[n,eC]
  ·simp[H,Z,C,n,eC]
 have g:=Grew.alloc w (.cells f.toArray m);have o:(w.alloc (.cells f.toArray m)).heap[w.heap.size]?=some (.cells f.toArray m (0,0)):=by show(w.heap.push _)[w.heap.size]?=_;simp
 have V:∀(i:Nat)(row:List DT)(j:Nat)(t:DT),rows[i]?=some row→row[j]?=some t→pa w t:=fun i row j t hi hj=>B row (Ef hi) t (Ef hj)
 have hH:Holds (w.alloc (.cells f.toArray m)) (.s .own ((frD w).row len) l.size rows):=by refine .s _ _ _ _ rfl rfl _ m (0,0) o (by simp[frD,k]) R.row (fun i row j t hi hj=>?_) (fun i row j t hi hj=>(V i row j t hi hj).holds.frame fun b _ hb=>g.same b hb);obtain⟨y,y1,y2⟩:=R.val i row j t hi hj;exact⟨y,by simpa[frD]using y1,y2⟩
 have hO:OwnT (w.alloc (.cells f.toArray m)) (.s .own ((frD w).row len) l.size rows):=by refine .s _ _ _ rfl rfl _ m 0 0 o (by simp[frD,k]) (by simp[frD,R.len,k]) (fun x _ _ h=>by omega) (fun i row j t hi hj=>?_);have:=V i row j t hi hj;exact(jR this.fine this.own).frame fun b _ hb=>g.same b hb
 have q:rows.flatMap (fun x=>x.flatMap Am.bl)=[]:=by rw[Ey];intro row N;rw[Ey];intro t s;exact(B row N t s).bl
 refine⟨_,_,d,(frD w).row len,l.size,rows,rfl,rfl,F,g,⟨by simp[VT,Dec.addr,frD,k],hH,hO,?_,fun b hb=>?_⟩⟩
 ·intro b;rw[bR,q];simp only[frD,EE,E3,EH];rw[List.count_singleton];split<;>omega
 ·rw[bR,q]at hb;simp[frD]at hb;subst hb;exact⟨EQ _,by simp⟩
theorem Inv.opInt {cx:Cx}{D:DSt}{a:Act}{w:World}(I:Inv cx D [] a.tmps w){x:Operand}{n:Int}(h:(Am.opd mkD.nil D x).bind intOfSl=some n):∃k,a.eval x = .int k n:=by
 rw[Eh]at h;obtain⟨s,c,b⟩:=h;unfold intOfSl at b;split at b
 ·rename_i k n';cases b;exact⟨k,(I.opd c).val.1⟩
 ·cases b
theorem qa (ok:aK P tab){cx:Cx}{D D':DSt}{a:Act}{w:World}(I:Inv cx D [] a.tmps w){dst:Option Nat}{t:Nat}{l c:Operand}
  (e:ct mkD (frD w) tab D dst t l c=some D'):∃y w',(Instr.makeSlice t (a.eval l) (a.eval c)).run P w = .ok y w'∧Inv cx D' [] (a.put dst y).tmps w':=by
 unfold ct at e;split at e
 case h_2=>cases e
 rename_i sz U ze o d n k C V F;split at e
 case h_2=>cases e
 rename_i m H;split at e
 case isFalse=>cases e
 rename_i hc;split at e
 case isFalse=>cases e
 rename_i W;cases e;obtain⟨hd,X,J⟩:=hc;obtain⟨Y,Z,n3,n4⟩:=W;have hu:=cU (Tab.ok ok C) rfl;obtain⟨i,d',z,g1,G4,K,g4,g5,L,g7,g3⟩:=cW (Tab.ok ok H);have G:=ez (P:=P) (t:=o) (w:=w) (cx:=cx) (D:=D) (ys:=z.cells.toList) g3;rw[←L]at G;have A:z.cells.size=m.size:=by rw[←J,L];simp[b7]
 have s:∀t∈m.zero.map (T.inj nilD),t.fine=true:=by intro t B;rw[L]at B;simp only[Ex,b7,Ff]at B;obtain⟨u,⟨j,hj,rfl⟩,rfl⟩:=B;unfold zT;split<;>rfl
 obtain⟨kl,M⟩:=I.opInt V;obtain⟨kc,N⟩:=I.opInt F;have f:=run_make w t o i z hu g1 K kl kc n k Y Z (by rw[g5];exact n3) (by omega);rw[←M, ←N]at f;have R:=RowsAre.init G.v (by omega) k.toNat;have O:(madeCells z.cells (k.toNat*i.size))=((Array.range (k.toNat*z.cells.size)).map (fun i=>z.cells[i % z.cells.size]!)):=by unfold madeCells;rw[g4,A]
 rw[O]at f;rw[A]at R f;generalize p:(Array.range (k.toNat*m.size)).map (fun i=>z.cells[i % m.size]!)=cells at R f;have g:=Grew.alloc w (.cells cells o);have q:(w.alloc (.cells cells o)).heap[w.heap.size]?=some (.cells cells o (0,0)):=by show(w.heap.push _)[w.heap.size]?=_;simp
 have G5:n.toNat≤k.toNat:=by omega
 have r:∀(i:Nat)(row:List DT),(List.replicate n.toNat (m.zero.map (T.inj nilD)))[i]?=some row→(List.replicate k.toNat (m.zero.map (T.inj nilD)))[i]?=some row:=by
  intro i row h;rw[GG]at h ⊢;split at h
  ·rw[Ej (by omega)];exact h
  ·cases h
 have Q:∀(i:Nat)(row:List DT)(j:Nat)(t:DT),(List.replicate n.toNat (m.zero.map (T.inj nilD)))[i]?=some row→row[j]?=some t→pa w t:=fun i row j t hi hj=>by have:=Fa (Ef hi);subst this;exact G.bare s t (Ef hj)
 have S:cells.size=k.toNat*m.size:=by rw[←p];simp
 have hH:Holds (w.alloc (.cells cells o)) (.s .own ((frD w).row k.toNat) m.size (List.replicate n.toNat (m.zero.map (T.inj nilD)))):=by refine .s _ _ _ _ rfl rfl _ o (0,0) q (by simp[frD];omega) (fun i row h=>R.row i row (r i row h)) (fun i row j t hi hj=>?_) (fun i row j t hi hj=>(Q i row j t hi hj).holds.frame fun b _ hb=>g.same b hb);obtain⟨y,y1,y2⟩:=R.val i row j t (r i row hi) hj;exact⟨y,by simpa[frD]using y1,y2⟩
 have hO:OwnT (w.alloc (.cells cells o)) (.s .own ((frD w).row k.toNat) m.size (List.replicate n.toNat (m.zero.map (T.inj nilD)))):=by refine .s _ _ _ rfl rfl _ o 0 0 q (by simp[frD];omega) (by simp[frD,S]) (fun x _ _ h=>by omega) (fun i row j t hi hj=>?_);have:=Q i row j t hi hj;exact(jR this.fine this.own).frame fun b _ hb=>g.same b hb
 refine⟨_,_,f,I.newRows (P:=[]) g (by simp) (d:=(frD w).row k.toNat) ⟨rfl,rfl⟩ hH hO (fun b=>?_) hd (by simp[VT,Dec.addr,frD])⟩;have:(List.replicate n.toNat (m.zero.map (T.inj nilD))).flatMap (fun x=>x.flatMap Am.bl)=[]:=by rw[Ey];intro row hr;rw[Ey];intro t B;obtain⟨i,hi⟩:=En hr;obtain⟨j,hj⟩:=En B;exact(Q i row j t hi hj).bl
 rw[this];simp
end
theorem Holds.cells {w:World}{k:Kd}{d:Dec}{z:Nat}{rows:List (List DT)}(h:Holds w (.s k d z rows))(x:0<z):
  ∃cs:List Value,RowsAre z rows cs∧(∀u∈cs,u.oneCell'=true)∧(rows=[]∧cs=[]∨d.nil=false∧d.sp=none∧∀j u,cs[j]?=some u→w.cell? ⟨d.b,d.o+j,none⟩=some u):=by
 cases h with
 |e=>exact⟨[],⟨by simp,fun i r h=>by simp at h,fun i r j t h=>by simp at h⟩,fun u h=>(by cases h),.inl ⟨rfl,rfl⟩⟩
 |s _ _ _ _ q hsp c e f hb hcap hz hv hh =>
  have at_:∀n,n<rows.length*z→∃t y,c[d.o+n]?=some y∧VT t y:=by
   intro n a;have hi:n/z<rows.length:=Nat.div_lt_of_lt_mul (by rw[Nat.mul_comm];exact a);have m:n % z<z:=Nat.mod_lt _ x;have D:=hz (n/z) rows[n/z] (El hi);obtain⟨y,l,p⟩:=hv (n/z) rows[n/z] (n % z) (rows[n/z][n % z]'(by omega)) (El hi) (El (by omega));have:n/z*z+n % z=n:=by rw[Nat.mul_comm];exact Nat.div_add_mod n z
   rw[Fp,this]at l;exact⟨_,y,l,p⟩
  refine⟨(List.range (rows.length*z)).map fun n=>(c[d.o+n]?).getD undef,⟨by simp,hz,fun i row j t hi m=>?_⟩,fun u C=>?_,.inr ⟨q,hsp,fun j u m=>?_⟩⟩
  ·obtain⟨y,l,p⟩:=hv i row j t hi m;refine⟨y,?_,p⟩;have A:i<rows.length:=by
    rcases Em i rows.length with g|g
    ·exact g
    ·rw[Ek g]at hi;cases hi
   have B:j<z:=by
    have:=hz i row hi;rcases Em j row.length with g|g
    ·omega
    ·rw[Ek g]at m;cases m
   have:=iD A B;rw[Et,Fn this,Ee, ←Fp,l];rfl
  ·simp only[Ex,EW]at C;obtain⟨n,a,rfl⟩:=C;obtain⟨t,y,l,p⟩:=at_ n a;rw[l];exact p.one
  ·rw[Et,Ei]at m;obtain⟨n,a,rfl⟩:=m;have v:j<rows.length*z:=by
    rcases Em j (rows.length*z)with g|g
    ·exact g
    ·rw[Ek (by simpa using g)]at a;cases a
   rw[Fn v]at a;cases a;obtain⟨t,y,l,p⟩:=at_ j v;rw[kv hb,l];rfl
theorem RowsAre.append {z:Nat}{rows a:List (List DT)}{cs b:List Value}(h:RowsAre z rows cs)(g:RowsAre z a b):RowsAre z (rows++a) (cs++b):=by
 refine⟨by simp[h.len,g.len,FC],fun i row hi=>?_,fun i row j t hi e=>?_⟩
 ·rcases Em i rows.length with q|q
  ·rw[EZ q]at hi;exact h.row i row hi
  ·rw[EX q]at hi;exact g.row _ row hi
 ·rcases Em i rows.length with q|q
  ·rw[EZ q]at hi;obtain⟨y,c,d⟩:=h.val i row j t hi e;refine⟨y,?_,d⟩;rw[EZ]
   ·exact c
   ·rcases Em (i*z+j) cs.length with p|p
    ·exact p
    ·rw[Ek p]at c;cases c
  ·rw[EX q]at hi;obtain⟨y,c,d⟩:=g.val _ row j t hi e;refine⟨y,?_,d⟩;have f:(i-rows.length)*z=i*z-rows.length*z:=Nat.sub_mul _ _ _;have k:rows.length*z≤i*z:=Fj _ q;rw[EX (by rw[h.len];omega),h.len];rw[show i*z+j-rows.length*z=(i-rows.length)*z+j by omega];exact c
structure so (B:Nat)(w w':World):Prop where
 os:w'.os=w.os
 tape:w'.tape=w.tape
 output:w'.output=w.output
 size:w.heap.size≤w'.heap.size
 same:∀b,b≠B→b<w.heap.size→w'.heap[b]?=w.heap[b]?
structure Ao (B:Nat)(s:DSl):Prop where
 roots:∀v∈af s,B∉bl v
 rootsO:∀v∈Am.rootsO s,B∉bl v
 head:match s with| .box b _=>b.1≠B| .im _ b _ _=>b.1≠B| .fni _ caps=>∀p∈caps,p.1.1≠B|_=>True
theorem Lies.grewX {B:Nat}{w w':World}(g:so B w w'){b:Nat×Nat}(hb:b.1≠B){ts:List DT}(h:Lies w b ts):Lies w' b ts:=by obtain⟨c,e,f,a,hv⟩:=h;exact⟨c,e,f,by rw[g.same _ hb (cQ a)];exact a,hv⟩
theorem MemS.grewX {B:Nat}{w w':World}(g:so B w w'){s:DSl}(a:Ao B s)(h:MemS w s):MemS w' s:=by
 obtain⟨m,n,d⟩:=h;refine⟨fun t i=>(m t i).frame fun b hb j=>g.same b (fun e=>a.roots t i (e ▸ hb)) j,fun t i o=>(n t i o).frame fun b hb j=>g.same b (fun e=>a.rootsO t i (e ▸ hb)) j,?_⟩;cases s with
 |box b ts =>refine⟨d.1.grewX g a.head,fun c e lo hi hb=>?_⟩;rw[g.same _ a.head d.1.lt]at hb;exact d.2 c e lo hi hb
 |im k b ts off=>exact Lies.grewX g a.head d
 |fni f caps=>exact fun p l=>(d p l).grewX g (a.head p l)
 |_=>trivial
theorem Inv.pend_out {cx:Cx}{D:DSt}{P:List (DT×Value)}{tm:Array Value}{w:World}(I:Inv cx D P tm w){B:Nat}(Q:0<az P B):cx.may B∧B<w.heap.size∧∀s∈D,Ao B s:=by
 have a:=I.bnd B (by omega);refine⟨a.1,a.2,fun s hs=>?_⟩;have m:∀s'∈D,B∉ownBl s':=by intro s' q hb;have g:=br q hb;have u:=I.once B;omega
 have C:∀v:DT,aS cx D v→(v.isOwn=true→B∉bl v)→B∉bl v:=by
  intro v l n hb;cases v with
  |v x=>simp[bl]at hb
  |any=>simp[bl]at hb
  |s k d z r =>
   cases k with
   |own=>exact n rfl hb
   |far=>exact Cx.far_not (l B hb) a.1
   |lent h c K =>obtain⟨t',g,u,H,L⟩:=l;obtain⟨s',M,F,N,J,G⟩:=be g;exact m s' F (G u B (H B hb))
 have l:=I.kind s hs;have y:=m s hs;cases s with
 |any=>exact⟨fun v hv=>by simp[af]at hv,fun v hv=>by simp[Am.rootsO]at hv,trivial⟩
 |one t =>have g:B∉bl t:=C t (l t (by simp[af])) (fun n hb=>y (by simp[ownBl,ownR,n,hb]));exact⟨fun v hv=>by simp[af]at hv;subst hv;exact g,fun v hv=>by simp[Am.rootsO]at hv;subst hv;exact g,trivial⟩
 |agg ts =>
  have g:∀t∈ts,B∉bl t:=fun t j=>C t (l t j) (fun n hb=>y (by simp only[ownBl,Eq];exact⟨t,j,by simp[ownR,n,hb]⟩))
  exact⟨g,g,trivial⟩
 |box b ts =>
  have g:∀t∈ts,B∉bl t:=fun t j=>C t (l t j) (fun n hb=>y (by simp only[ownBl,ER,Eq];exact .inr ⟨t,j,by simp[ownR,n,hb]⟩))
  exact⟨g,g,fun e=>y (by simp[ownBl,e])⟩
 |tup rs =>
  have g:∀t∈rs.flatMap (·.2),B∉bl t:=fun t j=>C t (l t j) (fun n hb=>y (by simp only[Eq]at j;obtain⟨p,A,j⟩:=j;simp only[ownBl,Eq];exact⟨p,A,t,j,by simp[ownR,n,hb]⟩))
  exact⟨g,g,trivial⟩
 |al h c st lo len=>exact⟨fun v hv=>by simp[af]at hv,fun v hv=>by simp[Am.rootsO]at hv,trivial⟩
 |pb h off=>exact⟨fun v hv=>by simp[af]at hv,fun v hv=>by simp[Am.rootsO]at hv,trivial⟩
 |pe h c st i off=>exact⟨fun v hv=>by simp[af]at hv,fun v hv=>by simp[Am.rootsO]at hv,trivial⟩
 |clo f q=>exact⟨fun v hv=>by simp[af]at hv,fun v hv=>by simp[Am.rootsO]at hv,trivial⟩
 |im k b ts off =>
  have o:iE cx D k b.1 ts:=l;cases k with
  |own=>exact o.elim
  |far=>exact⟨fun v hv hb=>Cx.far_not (o.2 v hv B hb) a.1,fun v hv=>by simp[Am.rootsO]at hv,fun e=>Cx.far_not (e ▸ o.1) a.1⟩
  |lent h c K =>obtain⟨t',g,u,H,O⟩:=o;obtain⟨s',M,F,N,J,G⟩:=be g;exact⟨fun v hv hb=>m s' F (G u B (O v hv B hb)),fun v hv=>by simp[Am.rootsO]at hv,fun e=>m s' F (G u B (e ▸ H))⟩
 |fni f caps =>refine⟨fun v hv hb=>?_,fun v hv=>by simp[Am.rootsO]at hv,fun p A e=>Cx.far_not (e ▸ (l p A).1) a.1⟩;simp only[af,Eq]at hv;obtain⟨p,A,hv⟩:=hv;exact Cx.far_not ((l p A).2 v hv B hb) a.1
theorem Inv.pendWrite {cx:Cx}{D:DSt}{P:List (DT×Value)}{tm:Array Value}{w w':World}(I:Inv cx D P tm w){B:Nat}(k:0<az P B)(g:so B w w'){t:DT}{y:Value}
  (hv:VT t y) (hh:Holds w' t) (l:OwnT w' t) (a:t.isOwn=true) (hc:∀b,(bl t).count b≤az P b):Inv cx D [(t,y)] tm w':=by
 obtain⟨c,m,d⟩:=I.pend_out k;have i:∀b,az [(t,y)] b≤az P b:=fun b=>by simp only[az,Ez,FO,EH,ownR,a,EV];exact hc b
 refine⟨I.size,I.val,fun s hs=>(I.mem s hs).grewX g (d s hs),I.kind,fun p j=>?_,fun b=>?_,fun b hb=>?_,?_⟩
 ·rw[Er]at j;subst j;exact⟨hv,hh,fun _=>l,fun h=>by rw[a]at h;cases h⟩
 ·have:=I.once b;have:=i b;omega
 ·have:=i b;have:=I.bnd b (by omega);exact⟨this.1,EU this.2 g.size⟩
 ·have f:=I.frame;exact⟨g.os.trans f.os,g.tape.trans f.tape,g.output.trans f.output,E7 f.size g.size,fun b hb=>by rw[g.same b (fun e=>Cx.keep_not (e ▸ hb) c) (EU hb.1 f.size)];exact f.same b hb⟩
end Go.Proofs.Ytlhgcolciklecaa.Am
