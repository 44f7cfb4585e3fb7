/- An abstract machine over trees, and that its steps are sound, a part. Conditions: none. -/
import Derived.Calls
import Derived.Tactics
import Derived.Laws.StructEq
import Derived.Laws.Small
import Derived.Laws.Slices
import Derived.Laws.Strings
import Derived.Laws.Pointers
import Derived.Laws.Build
import Derived.Laws.Cells
import Derived.Laws.IdiomCopy
import Derived.Deep.Slices
import Derived.Deep.OwnRows
import Derived.Laws.MakeOwn
import Derived.Laws.Tables
import Derived.Deep.AppendSrc
namespace Go.Proofs.YtlgddjncnedkgaaGreatDoor.Am
open Go
set_option linter.unusedVariables false
set_option linter.unusedSimpArgs false
variable{w w':World}{tm:Array Value}{ys:List Value}{t z h i B:Nat}{p:Nat→Nat→Bool}{y:Value}{q:Nat→Nat→Bool→Bool}{st l:List (Nat×Nat)}{a:Act}{g tk:Bool}{op:BinOp}{α:Type}
abbrev Wy:=@Option.bind_some
abbrev Wz:=@if_pos
abbrev WA:=@Option.bind_eq_some_iff
abbrev WB:=@Option.map_some
abbrev WC:=@List.mem_of_getElem?
abbrev WD:=@Option.map_eq_some_iff
abbrev WE:=@List.getElem?_eq_getElem
abbrev WF:=@List.getElem?_eq_none
abbrev WG:=@List.mem_singleton
abbrev WH:=@decide_eq_false
abbrev WI:=@Nat.lt_or_ge
abbrev WJ:=@decide_eq_true
abbrev WK:=@cond_true
abbrev WL:=@List.getElem?_of_mem
abbrev WM:=@if_neg
abbrev WN:=@List.getElem?_set_self
abbrev WO:=@cond_false
abbrev WP:=@List.mem_flatMap
abbrev WQ:=@List.getElem?_map
abbrev WR:=@List.getElem?_set_ne
abbrev WS:=@List.all_eq_true
abbrev WT:=@List.map_cons
abbrev WU:=@List.mem_map
abbrev WV:=@congrArg
abbrev WW:=@List.count_pos_iff
abbrev WX:=@List.append_nil
abbrev WY:=@List.flatMap_eq_nil_iff
abbrev WZ:=@List.mem_cons
abbrev W0:=@Bool.and_eq_true
abbrev W1:=@List.flatMap_cons
abbrev W2:=@Bool.false_eq_true
abbrev W3:=@List.count_append
abbrev W4:=@List.length_cons
abbrev W5:=@List.mem_append
abbrev W6:=@List.length_map
abbrev W7:=@List.nil_append
abbrev W8:=@if_true
abbrev W9:=@List.drop_zero
abbrev Xa:=@Bool.true_and
abbrev Xb:=@List.take_length
abbrev Xc:=@List.map_nil
abbrev Xd:=@Option.some.injEq
abbrev Xe:=@List.mem_singleton_self
abbrev Xf:=@Nat.lt_of_lt_of_le
abbrev Xg:=@Array.getElem?_eq_getElem
abbrev Xh:=@Classical.byContradiction
abbrev Xi:=@List.map_congr_left
abbrev Xj:=@Nat.le_refl
abbrev Xk:=@List.map_map
abbrev Xl:=@bne_self_eq_false
abbrev Xm:=@List.mem_range
abbrev Xn:=@List.drop_eq_nil_of_le
abbrev Xo:=@Array.getD_eq_getD_getElem?
abbrev Xp:=@List.getElem?_append_right
abbrev Xq:=@Bool.not_true
abbrev Xr:=@List.getElem?_append_left
abbrev Xs:=@if_false
abbrev Xt:=@Nat.eq_zero_or_pos
abbrev Xu:=@Nat.le_trans
abbrev Xv:=@decide_eq_true_eq
abbrev Xw:=@List.getElem?_cons_zero
abbrev Xx:=@List.getElem?_drop
abbrev Xy:=@beq_eq_false_iff_ne
abbrev Xz:=@Array.getElem?_eq_none
abbrev XA:=@Int.le_refl
abbrev XB:=@List.map_append
abbrev XC:=@List.mem_or_eq_of_mem_set
abbrev XD:=@Option.map_map
abbrev XE:=@List.eq_of_mem_replicate
abbrev XF:=@List.singleton_append
abbrev XG:=@List.contains_iff_mem
abbrev XH:=@List.length_eq_zero_iff
abbrev XI:=@List.all_map
abbrev XJ:=@List.getElem?_take
abbrev XK:=@List.mem_mapIdx
abbrev XL:=@List.count_cons
abbrev XM:=@List.mem_of_mem_drop
abbrev XN:=@Nat.mul_le_mul_right
abbrev XO:=@List.eq_nil_iff_forall_not_mem
abbrev XP:=@Bool.false_ne_true
abbrev XQ:=@List.drop_eq_getElem_cons
abbrev XR:=@List.flatMap_append
abbrev XS:=@List.getElem?_range
abbrev XT:=@List.ext_getElem?
abbrev XU:=@List.append_assoc
abbrev XV:=@List.mem_filter
abbrev XW:=@List.getElem_mem
abbrev XX:=@List.any_eq_true
abbrev XY:=@List.filter_cons
abbrev XZ:=@Nat.add_assoc
abbrev X0:=@Nat.add_mul
abbrev X1:=@List.take_of_length_le
abbrev X2:=@Int.toNat_natCast
abbrev X3:=@List.foldl_cons
abbrev X4:=@List.cons.injEq
abbrev X5:=@List.pairwise_iff_getElem
abbrev X6:=@UInt8.lt_iff_toNat_lt
abbrev X7:=@Array.toList_inj
abbrev X8:=@List.mem_filterMap
abbrev X9:=@List.all_cons
abbrev Ya:=@List.mem_cons_of_mem
abbrev Yb:=@List.mem_of_mem_take
abbrev Yc:=@beq_iff_eq
abbrev Yd:=@BEq.rfl
abbrev Ye:=@List.mem_map_of_mem
abbrev Yf:=@Nat.lt_irrefl
abbrev Yg:=@Array.getElem?_append_left
abbrev Yh:=@List.not_mem_nil
abbrev Yi:=@List.getElem?_mapIdx
abbrev Yj:=@List.length_set
abbrev Yk:=@Nat.zero_add
abbrev Yl:=@Option.isSome_iff_exists
abbrev Ym:=@List.idxOf_lt_length_iff
abbrev Yn:=@Option.some.inj
abbrev Yo:=@of_decide_eq_true
abbrev Yp:=@List.getElem?_cons_succ
abbrev Yq:=@List.flatMap_map
abbrev Yr:=@List.flatMap_nil
abbrev Ys:=@Bool.not_eq_true
abbrev Yt:=@Bool.and_false
abbrev Yu:=@getElem!_pos
abbrev Yv:=@List.map_take
abbrev Yw:=@List.map_drop
abbrev Yx:=@List.perm_ext_iff_of_nodup
abbrev Yy:=@List.getElem?_zip_eq_some
abbrev Yz:=@eq_true
abbrev YA:=@Option.getD_some
abbrev YB:=@List.map_set
abbrev YC:=@List.getElem?_replicate
abbrev YD:=@Bool.false_or
abbrev YE:=@List.head?_drop
abbrev YF:=@and_true
abbrev YG:=@List.map_id
abbrev YH:=@Nat.lt_trichotomy
abbrev YI:=@List.any_eq_false
abbrev YJ:=@List.getElem?_toArray
abbrev YK:=@List.length_singleton
abbrev YL:=@List.pairwise_append
abbrev YM:=@Nat.zero_le
abbrev YN:=@Bool.or_eq_true
abbrev YO:=@List.length_erase_of_mem
abbrev YP:=@Bool.false_and
abbrev YQ:=@Bool.not_false
abbrev YR:=@decide_eq_false_iff_not
abbrev YS:=@List.drop_sublist
abbrev YT:=@List.take_add_one
abbrev YU:=@List.map_inj_left
abbrev YV:=@List.length_pos_of_mem
abbrev YW:=@List.any_cons
abbrev YX:=@Array.all_eq_true_iff_forall_mem
abbrev YY:=@List.cons_append
abbrev YZ:=@List.flatMap_def
abbrev Y0:=@or_false
abbrev Y1:=@List.nodup_range
abbrev Y2:=@Bool.cond_decide
abbrev Y3:=@Array.getElem?_modify
abbrev Y4:=@List.length_mergeSort
abbrev Y5:=@ByteArray.size_append
abbrev Y6:=@Array.getElem?_setIfInBounds_ne
abbrev Y7:=@Nat.add_comm
abbrev Y8:=@List.any_map
abbrev Y9:=@List.count_cons_self
abbrev Za:=@List.nodup_cons
abbrev Zb:=@List.getElem_toArray
abbrev Zc:=@List.length_pos_iff
abbrev Zd:=@List.map_replicate
abbrev Ze:=@Array.getElem_setIfInBounds
abbrev Zf:=@List.getElem_idxOf
abbrev Zg:=@List.count_eq_zero
abbrev Zh:=@List.length_append
abbrev Zi:=@List.pairwise_cons
abbrev Zj:=@Array.toList_setIfInBounds
abbrev Zk:=@Prod.mk.injEq
abbrev Zl:=@Array.getElem?_eq_some_iff
abbrev Zm:=@List.length_range
abbrev Zn:=@List.size_toArray
abbrev Zo:=@List.pairwise_map
abbrev Zp:=@Bool.not_eq_true'
abbrev Zq:=@List.getElem?_set
abbrev Zr:=@Option.isNone_iff_eq_none
abbrev Zs:=@List.set_set
abbrev Zt:=@List.pairwise_mergeSort
abbrev Zu:=@List.length_nil
abbrev Zv:=@Option.map_none
abbrev Zw:=@UInt8.toNat_inj
abbrev Zx:=@List.count_nil
abbrev Zy:=@bne_iff_ne
abbrev Zz:=ByteArray
inductive Kd where|own|far|lent (h c:Nat) (root:Bool) deriving DecidableEq
variable{k:Kd}
def Kd.unr:Kd→Kd| .lent h c _=>.lent h c false|k=>k
inductive T (δ:Type) where|v (x:Value)|any|s (k:Kd) (d:δ) (sz:Nat) (rows:List (List (T δ)))
inductive Uf where|fn (f:FuncId)|arr (offs:List Nat)
inductive Sl (δ β:Type) where|any|one (t:T δ)|agg (ts:List (T δ))|box (b:β) (ts:List (T δ))|al (h c:Nat) (st:List (Nat×Nat)) (lo len:Nat)|pb (h off:Nat)|pe (h c:Nat) (st:List (Nat×Nat)) (i off:Nat)|im (k:Kd) (b:β) (ts:List (T δ)) (off:Nat)|fni (f:FuncId) (caps:List (β×List (T δ)))|clo (f:Uf) (hs:List Nat)|tup (rs:List (Bool×List (T δ)))
abbrev St (δ β:Type):=List (Sl δ β)
section
variable  {δ β : Type}
def T.kd (k:Kd):T δ→T δ| .s .own d z r=>.s k d z r|t=>t
def T.view (k:Kd):T δ→T δ| .s _ d z r=>.s k d z r|t=>t
def T.isOwn:T δ→Bool| .s .own _ _ _=>true|_=>false
def T.fine:T δ→Bool| .s .own _ _ _=>true| .s _ _ _ _=>false|_=>true
def T.hole:T δ→T δ| .s .own _ _ _=>.any|t=>t
def T.dead (p:Nat→Nat→Bool):T δ→T δ| .s (.lent h c a) d z r=>if p h c then .any else .s (.lent h c a) d z r|t=>t
def Sl.dead (p:Nat→Nat→Bool)(q:Nat→Nat→Bool→Bool):Sl δ β→Sl δ β
 | .one t=>.one (t.dead p)
 | .agg ts=>.agg (ts.map (T.dead p))
 | .box b ts=>.box b (ts.map (T.dead p))
 | .al h c st lo len=>if q h c (!st.isEmpty)then .any else .al h c st lo len
 | .pe h c st i off=>if q h c (!st.isEmpty)then .any else .pe h c st i off
 | .im k b ts off=>match k with| .lent h c _=>(if p h c then .any else .im k b ts off)|_=>.im k b ts off
 | .tup rs=>.tup (rs.map fun r=>(r.1,r.2.map (T.dead p)))
 |x=>x
def Sl.gone (t:Nat):Sl δ β→Sl δ β| .pb h off=>if h=t then .any else .pb h off| .clo f hs=>if hs.contains t then .any else .clo f hs|x=>x
def St.dead (p:Nat→Nat→Bool)(q:Nat→Nat→Bool→Bool)(D:St δ β):St δ β:=D.map (Sl.dead p q)
def atH (t:Nat):Nat→Nat→Bool:=fun h _=>h==t
def dv (t u:Nat):Nat→Nat→Bool:=fun h c=>h==t&&c==u
def qH (t:Nat):Nat→Nat→Bool→Bool:=fun h _ _=>h==t
def qHC (t u:Nat):Nat→Nat→Bool→Bool:=fun h c _=>h==t&&c==u
def nU (t u:Nat):Nat→Nat→Bool→Bool:=fun h c a=>h==t&&c==u&&a
def qNo:Nat→Nat→Bool→Bool:=fun _ _ _=>false
def bm (t:Nat)(D:St δ β):St δ β:=((D.dead (atH t) (qH t)).map (Sl.gone t)).set t .any
def Sl.isHome:Sl δ β→Bool| .one t=>t.isOwn| .agg ts=>ts.any T.isOwn| .box _ _=>true| .tup rs=>rs.any fun r=>r.2.any T.isOwn|_=>false
def Sl.clean (t:Nat)(x:Sl δ β):Sl δ β:=(x.dead (atH t) (qH t)).gone t
def bj (D:St δ β)(dst:Option Nat)(x:Sl δ β):St δ β :=
 match dst with
 |none=>D
 |some t=>(bm t D).set t (x.clean t)
def bh:Sl δ β→Option (List (T δ))| .one t=>some [t]| .agg ts=>some ts| .box _ ts=>some ts|_=>none
def setCells (cs:List (T δ)):Sl δ β→Sl δ β| .one _=>.one (cs.headD .any)| .agg _=>.agg cs| .box b _=>.box b cs|x=>x
def aw (D:St δ β)(h c:Nat):Option (T δ):=(D[h]?.bind bh).bind (·[c]?)
def ia (D:St δ β)(h c:Nat)(t:T δ):Option (St δ β):=
 match D[h]? with
 |some x=>(bh x).map fun cs=>D.set h (setCells (cs.set c t) x)
 |none=>none
def getN:T δ→List (Nat×Nat)→Option (T δ)
 |t,[]=>some t
 | .s _ _ _ rows,(i,c)::st=>(rows[i]?.bind (·[c]?)).bind (getN · st)
 |_,_=>none
def gN (f:T δ→Option (T δ)):T δ→List (Nat×Nat)→Option (T δ)|t,[]=>f t| .s k d z rows,(i,c)::st =>(rows[i]?).bind fun row=>(row[c]?).bind fun u=>(gN f u st).map fun u'=>.s k d z (rows.set i (row.set c u'))|_,_=>none
def db (D:St δ β)(h c:Nat)(st:List (Nat×Nat)):Option (T δ):=(aw D h c).bind (getN · st)
def dL (f:T δ→Option (T δ))(D:St δ β)(h c:Nat)(st:List (Nat×Nat)):Option (St δ β):=(aw D h c).bind fun t=>(gN f t st).bind fun t'=>ia D h c t'
end
structure Dec where
 b:Nat
 o:Nat
 cap:Nat
 nil:Bool
 sp:Option Addr:=none
variable{d:Dec}
def Dec.addr (d:Dec):Option Addr :=
 match d.sp with
 |some a=>some a
 |none=>if d.nil then none else some ⟨d.b,d.o,none⟩
theorem Dec.addr_none (h:d.sp=none):d.addr=if d.nil then none else some ⟨d.b,d.o,none⟩:=by unfold Dec.addr;rw[h]
abbrev DT:=T Dec
variable{P V:List (DT×Value)}{us cs:List DT}{u t':DT}
abbrev DSl:=Sl Dec (Nat×Nat)
abbrev DSt:=List DSl
variable{D D':DSt}
def VT:DT→Value→Prop| .v x,y=>y=x∧y.oneCell'=true| .any,y=>y.oneCell'=true| .s _ d _ rows,y=>y = .slice d.addr rows.length d.cap
theorem VT.one {t:DT}(h:VT t y):y.oneCell'=true:=by
 cases t with
 |v x=>exact h.2
 |any=>exact h
 |s k d z r=>rw[show y=_ from h];rfl
mutual
def bl:DT→List Nat| .v _=>[]| .any=>[]| .s _ d _ rows=>(if d.nil then []else [d.b])++AU rows
def EG:List DT→List Nat|[]=>[]|t::r=>bl t++EG r
def AU:List (List DT)→List Nat|[]=>[]|r::rs=>EG r++AU rs
end
theorem SM (r:List DT):EG r=r.flatMap bl:=by
 induction r with
 |nil=>simp[EG]
 |cons a r b=>simp[EG,b]
theorem Q0 (r:List (List DT)):AU r=r.flatMap fun x=>x.flatMap bl:=by
 induction r with
 |nil=>simp[AU]
 |cons a r b=>simp[AU,b,SM]
theorem cS (k:Kd)(d:Dec)(z:Nat)(rows:List (List DT)):
  bl (.s k d z rows)=(if d.nil then []else [d.b])++rows.flatMap fun x=>x.flatMap bl:=by
 rw[bl,Q0]
inductive Holds (w:World):DT→Prop where|v (x:Value):Holds w (.v x)|any:Holds w .any|e (k:Kd) (d:Dec) (z:Nat):Holds w (.s k d z [])|s (k:Kd) (d:Dec) (z:Nat) (rows:List (List DT)) (h:d.nil=false) (hsp:d.sp=none) (c:Array Value) (e:TypeId) (f:Nat×Nat) (hb:w.heap[d.b]?=some (.cells c e f)) (hcap:rows.length≤d.cap) (hz:∀(i:Nat)(row:List DT),rows[i]?=some row→row.length=z) (hv:∀(i:Nat)(row:List DT)(j:Nat)(t:DT),rows[i]?=some row→row[j]?=some t→∃y,c[d.o+i*z+j]?=some y∧VT t y) (hh:∀(i:Nat)(row:List DT)(j:Nat)(t:DT),rows[i]?=some row→row[j]?=some t→Holds w t):Holds w (.s k d z rows)
inductive OwnT (w:World):DT→Prop where|v (x:Value):OwnT w (.v x)|any:OwnT w .any|nil (d:Dec) (z:Nat) (h:d.nil=true) (hsp:d.sp=none) (hc:d.cap=0):OwnT w (.s .own d z [])|s (d:Dec) (z:Nat) (rows:List (List DT)) (h:d.nil=false) (hsp:d.sp=none) (c:Array Value) (e:TypeId) (lo hi:Nat) (hb:w.heap[d.b]?=some (.cells c e (lo,hi))) (hcap:rows.length≤d.cap) (hroom:d.o+d.cap*z≤c.size) (hf:∀x,d.o≤x→x<d.o+d.cap*z→¬(lo≤x∧x<hi)) (hh:∀(i:Nat)(row:List DT)(j:Nat)(t:DT),rows[i]?=some row→row[j]?=some t→OwnT w t):OwnT w (.s .own d z rows)
theorem OwnT.sp {rows:List (List DT)}(h:OwnT w (.s k d z rows)):d.sp=none:=by
 cases h with
 |nil _ _ _ hsp _=>exact hsp
 |s _ _ _ _ hsp=>exact hsp
theorem Holds.sp {rows:List (List DT)}(h:Holds w (.s k d z rows))(a:rows≠[]):d.sp=none:=by
 cases h with
 |e=>exact absurd rfl a
 |s _ _ _ _ _ hsp=>exact hsp
theorem mv {rows:List (List DT)}(h:d.nil=false):d.b∈bl (.s k d z rows):=by rw[cS,h];simp
theorem lZ {rows:List (List DT)}{j:Nat}{row:List DT}{t:DT}(hi:rows[i]?=some row)(hj:row[j]?=some t){b:Nat}(hb:b∈bl t):
  b∈bl (.s k d z rows):=by
 rw[cS];simp only[W5,WP];exact .inr ⟨row,WC hi,t,WC hj,hb⟩
theorem d8 {b:Nat}{o:Obj}(h:w.heap[b]?=some o):b<w.heap.size:=by
 rcases WI b w.heap.size with g|g
 ·exact g
 ·rw[Xz g]at h;cases h
theorem Holds.frame {t:DT}(h:Holds w t):(∀b∈bl t,b<w.heap.size→w'.heap[b]?=w.heap[b]?)→Holds w' t:=by
 induction h with
 |v x=>exact fun _=>.v x
 |any=>exact fun _=>.any
 |e k d z=>exact fun _=>.e k d z
 |s k d z rows h hsp c e f hb hcap hz hv hh g =>intro hs;exact .s k d z rows h hsp c e f (by rw[hs _ (mv h) (d8 hb)];exact hb) hcap hz hv fun i row j t hi a =>g i row j t hi a fun b hb=>hs b (lZ hi a hb)
theorem OwnT.frame {t:DT}(h:OwnT w t):(∀b∈bl t,b<w.heap.size→w'.heap[b]?=w.heap[b]?)→OwnT w' t:=by
 induction h with
 |v x=>exact fun _=>.v x
 |any=>exact fun _=>.any
 |nil d z h hsp hc=>exact fun _=>.nil d z h hsp hc
 |s d z rows h hsp c e lo hi hb hcap hroom hf hh f =>intro hs;exact .s d z rows h hsp c e lo hi (by rw[hs _ (mv h) (d8 hb)];exact hb) hcap hroom hf fun i row j t hi a =>f i row j t hi a fun b hb=>hs b (lZ hi a hb)
theorem Holds.lt {t:DT}(h:Holds w t)(l:OwnT w t):∀b∈bl t,b<w.heap.size:=by
 induction h with
 |v x=>intro b hb;simp[bl]at hb
 |any=>intro b hb;simp[bl]at hb
 |e k d z =>
  intro b hb;rw[cS]at hb;cases l with
  |nil d z h hsp hc=>simp[h]at hb
  |s d z rows h hsp c e lo hi a =>
   simp[h]at hb;subst hb;rcases WI d.b w.heap.size with g|g
   ·exact g
   ·rw[Xz g]at a;cases a
 |s k d z rows h hsp c e f hb hcap hz hv hh n =>
  intro b a;rw[cS,h]at a;simp only[W2,Xs,W5,WP,WG]at a;rcases a with rfl|⟨row,o,t,p,a⟩
  ·rcases WI d.b w.heap.size with g|g
   ·exact g
   ·rw[Xz g]at hb;cases hb
  ·obtain⟨i,hi⟩:=WL o;obtain⟨j,m⟩:=WL p;refine n i row j t hi m ?_ b a;cases l with
   |nil d z q hsp hc=>simp[h]at q
   |s d z rows h hsp c e lo hi hb hcap hroom hf hh=>exact hh i row j t ‹_› m
def ownR (t:DT):List Nat:=if t.isOwn then bl t else []
def ownBl:DSl→List Nat| .one t=>ownR t| .agg ts=>ts.flatMap ownR| .box b ts=>b.1::ts.flatMap ownR| .tup rs=>rs.flatMap fun r=>r.2.flatMap ownR|_=>[]
def an:DSl→List DT
 | .one t=>[t]
 | .agg ts=>ts
 | .box _ ts=>ts
 | .im _ _ ts _=>ts
 | .fni _ caps=>caps.flatMap (·.2)
 | .tup rs=>rs.flatMap (·.2)
 |_=>[]
def rootsO:DSl→List DT
 | .one t=>[t]
 | .agg ts=>ts
 | .box _ ts=>ts
 | .tup rs=>rs.flatMap (·.2)
 |_=>[]
def VCells (ts:List DT)(cs:List Value):Prop:=ts.length=cs.length∧∀(i:Nat)(t:DT)(y:Value),ts[i]?=some t→cs[i]?=some y→VT t y
def VPart (r:Bool×List DT)(y:Value):Prop:=if r.1 then ∃cs:Array Value,y = .agg cs∧VCells r.2 cs.toList else ∃t,r.2=[t]∧VT t y
def fi (D:DSt)(h c:Nat)(st:List (Nat×Nat))(d:Dec)(z n:Nat):Prop :=∃t,aw D h c=some t∧t.isOwn=true∧∃k rows,getN t st=some (.s k d z rows)∧rows.length=n
def Kn:Uf→List (Nat×Nat)→Value| .fn f,a=>.func (.func f) #[] (a.map fun b=>Value.pointer (some ⟨b.1,b.2,none⟩)).toArray| .arr offs,a=>.agg ((a.zip offs).map fun p=>Value.pointer (some ⟨p.1.1,p.1.2+p.2,none⟩)).toArray
def VS (D:DSt):DSl→Value→Prop| .any,_=>True| .one t,y=>VT t y| .agg ts,y=>∃cs:Array Value,y = .agg cs∧VCells ts cs.toList| .box b _,y=>y = .pointer (some ⟨b.1,b.2,none⟩)| .al h c st lo len,y=>∃d z n a,fi D h c st d z n∧lo+len≤n∧y = .slice a len (d.cap-lo)∧(lo<d.cap→a=some ⟨d.b,d.o+lo*z,none⟩)∧(lo=0→a=if d.nil then none else some ⟨d.b,d.o,none⟩)| .pb h off,y=>∃b ts,D[h]?=some (.box b ts)∧y = .pointer (some ⟨b.1,b.2+off,none⟩)| .pe h c st i off,y=>∃d z n,fi D h c st d z n∧i<n∧y = .pointer (some ⟨d.b,d.o+i*z+off,none⟩)| .im _ b _ off,y=>y = .pointer (some ⟨b.1,b.2+off,none⟩)| .fni f caps,y=>y = .func (.func f) #[] (caps.map fun b=>Value.pointer (some ⟨b.1.1,b.1.2,none⟩)).toArray| .clo f hs,y=>∃e:List (Nat×Nat),e.length=hs.length∧(∀(i h:Nat)(b:Nat×Nat),hs[i]?=some h→e[i]?=some b→∃ts,D[h]?=some (.box b ts)) ∧ y=Kn f e| .tup rs,y=>∃g:Array Value,y = .tuple g∧rs.length=g.toList.length∧∀(i:Nat)(r:Bool×List DT)(v:Value),rs[i]?=some r→g.toList[i]?=some v→VPart r v
def Lies (w:World)(b:Nat×Nat)(ts:List DT):Prop :=∃c e f,w.heap[b.1]?=some (.cells c e f)∧∀(j:Nat)(t:DT),ts[j]?=some t→∃y,c[b.2+j]?=some y∧VT t y
def Free (w:World)(b:Nat×Nat)(n:Nat):Prop :=∀c e lo hi,w.heap[b.1]?=some (.cells c e (lo,hi))→∀x,b.2≤x→x<b.2+n→¬(lo≤x∧x<hi)
def J9 (w:World):DSl→Prop| .box b ts=>Lies w b ts∧Free w b ts.length| .im _ b ts _=>Lies w b ts| .fni _ caps=>∀p∈caps,Lies w p.1 p.2|_=>True
def MemS (w:World)(s:DSl):Prop :=(∀t∈an s,Holds w t)∧(∀t∈rootsO s,t.isOwn=true→OwnT w t)∧J9 w s
structure Cx where
 w0:World
 X:List Nat
variable{cx:Cx}
def Cx.may (cx:Cx)(b:Nat):Prop:=cx.w0.heap.size≤b∨b∈cx.X
def Cx.far (cx:Cx)(b:Nat):Prop:=b<cx.w0.heap.size∧b∉cx.X
theorem Cx.far_not {b:Nat}(h:cx.far b):¬cx.may b:=fun a=>a.elim (fun g=>by have:=h.1;omega) h.2
structure Cx.Fr (cx:Cx)(w:World):Prop where
 os:w.os=cx.w0.os
 tape:w.tape=cx.w0.tape
 output:w.output=cx.w0.output
 size:cx.w0.heap.size≤w.heap.size
 same:∀b,cx.far b→w.heap[b]?=cx.w0.heap[b]?
def bQ (cx:Cx)(D:DSt):DT→Prop| .s .far d z rows=>∀x∈bl (.s .far d z rows),cx.far x| .s (.lent h c b) d z rows=>∃t,aw D h c=some t∧t.isOwn=true∧(∀x∈bl (.s (.lent h c b) d z rows),x∈bl t)∧(b=true→∃e a,t = .s .own d e a∧a.length=rows.length)|_=>True
def qk (cx:Cx)(D:DSt)(k:Kd)(b:Nat)(ts:List DT):Prop :=
 match k with
 | .own=>False
 | .far=>cx.far b∧∀t∈ts,∀x∈bl t,cx.far x
 | .lent h c _=>∃t,aw D h c=some t∧t.isOwn=true∧b∈bl t∧∀u∈ts,∀x∈bl u,x∈bl t
def fa (cx:Cx)(D:DSt):DSl→Prop| .im k b ts _=>qk cx D k b.1 ts| .fni _ caps=>∀p∈caps,cx.far p.1.1∧∀t∈p.2,∀x∈bl t,cx.far x|s=>∀t∈an s,bQ cx D t
def bF (D:DSt)(b:Nat):Nat:=(D.flatMap ownBl).count b
def bc (P:List (DT×Value))(b:Nat):Nat:=(P.flatMap fun p=>ownR p.1).count b
structure Inv (cx:Cx)(D:DSt)(P:List (DT×Value))(tm:Array Value)(w:World):Prop where
 size:D.length=tm.size
 val:∀(t:Nat)(s:DSl),D[t]?=some s→VS D s (tm.getD t undef)
 mem:∀s∈D,MemS w s
 kind:∀s∈D,fa cx D s
 pend:∀p∈P,VT p.1 p.2∧Holds w p.1∧(p.1.isOwn=true→OwnT w p.1)∧(p.1.isOwn=false→∀x∈bl p.1,cx.far x)
 once:∀b,bF D b+bc P b≤1
 bnd:∀b,0<bF D b+bc P b→cx.may b∧b<w.heap.size
 frame:cx.Fr w
def cZ (t:Nat):DSl→Prop| .al h _ _ _ _=>h=t| .pe h _ _ _ _=>h=t| .pb h _=>h=t| .clo _ hs=>t∈hs| .im (.lent h _ _) _ _ _=>h=t| .one u=>∃c a d z r,u = .s (.lent t c a) d z r| .agg ts=>∃u∈ts,∃c a d z r,u = .s (.lent t c a) d z r| .box _ ts=>∃u∈ts,∃c a d z r,u = .s (.lent t c a) d z r| .tup rs=>∃p∈rs,∃u∈p.2,∃c a d z r,u = .s (.lent t c a) d z r|_=>False
theorem nB {c:Nat}{x:DSl}(a:h≠t):aw (D.set t x) h c=aw D h c:=by unfold aw;rw[WR (fun e=>a e.symm)]
theorem Di {c:Nat}{x:DSl}{n:Nat}(a:h≠t):fi (D.set t x) h c st d z n↔fi D h c st d z n:=by unfold fi;rw[nB a]
theorem AS {x s:DSl}(a:¬cZ t s)(h:VS D s y):VS (D.set t x) s y:=by
 cases s with
 |al d c st lo len=>simp only[VS,Di (show d≠t from a)]at *;exact h
 |pe d c st i off=>simp only[VS,Di (show d≠t from a)]at *;exact h
 |pb d off =>simp only[VS]at *;rw[WR (fun e=>a e.symm)];exact h
 |clo f hs =>
  simp only[VS]at *;obtain⟨g,j,k,l⟩:=h;refine⟨g,j,fun i h b hi hb=>?_,l⟩;have:h≠t:=fun e=>a (e ▸ WC hi)
  rw[WR (fun e=>this e.symm)];exact k i h b hi hb
 |_=>exact h
theorem vw {x:DSl}(b:∀c a d z r,u ≠ .s (.lent t c a) d z r)(h:bQ cx D u):bQ cx (D.set t x) u:=by
 cases u with
 |v x=>exact trivial
 |any=>exact trivial
 |s k d z r =>
  cases k with
  |own=>exact trivial
  |far=>exact h
  |lent f c a =>
   have:f≠t:=fun e=>b c a d z r (by rw[e])
   simp only[bQ,nB this]at *;exact h
theorem sM {x s:DSl}(g:¬cZ t s)(h:fa cx D s):fa cx (D.set t x) s:=by
 cases s with
 |im k b ts off =>
  cases k with
  |own=>exact h
  |far=>exact h
  |lent i c a=>simp only[fa,qk,nB (show i≠t from g)]at *;exact h
 |fni f caps=>exact h
 |one u=>exact fun v hv=>by simp[an]at hv;subst hv;exact vw (fun c a d z r e=>g ⟨c,a,d,z,r,e⟩) (h _ (by simp[an]))
 |agg ts=>exact fun v hv=>vw (fun c a d z r e=>g ⟨v,hv,c,a,d,z,r,e⟩) (h _ hv)
 |box b ts=>exact fun v hv=>vw (fun c a d z r e=>g ⟨v,hv,c,a,d,z,r,e⟩) (h _ hv)
 |tup rs =>
  refine fun v hv=>vw (fun c a d z r e=>?_) (h _ hv)
  simp only[an,WP]at hv;obtain⟨p,j,hv⟩:=hv;exact g ⟨p,j,v,hv,c,a,d,z,r,e⟩
 |any=>exact fun v hv=>by simp[an]at hv
 |al=>exact fun v hv=>by simp[an]at hv
 |pe=>exact fun v hv=>by simp[an]at hv
 |pb=>exact fun v hv=>by simp[an]at hv
 |clo=>exact fun v hv=>by simp[an]at hv
theorem T.dead_own {t:DT}(h:t.isOwn=true):t.dead p=t:=by
 cases t with
 |v x=>rfl
 |any=>rfl
 |s k d z r=>cases k<;>simp_all[T.isOwn,T.dead]
theorem T.dead_cases (p:Nat→Nat→Bool)(t:DT):t.dead p=t∨(t.dead p = .any∧t.isOwn=false):=by
 cases t with
 |v x=>exact .inl rfl
 |any=>exact .inl rfl
 |s k d z r =>
  cases k with
  |own=>exact .inl rfl
  |far=>exact .inl rfl
  |lent h c a =>
   simp only[T.dead];split
   ·exact .inr ⟨rfl,rfl⟩
   ·exact .inl rfl
theorem BV (p:Nat→Nat→Bool)(t:DT):ownR (t.dead p)=ownR t:=by
 rcases T.dead_cases p t with h|⟨h,a⟩
 ·rw[h]
 ·rw[h];simp only[ownR,a];rfl
theorem Ct {t:DT}(h:VT t y):VT (t.dead p) y:=by
 rcases T.dead_cases p t with e|⟨e,_⟩
 ·rwa [e]
 ·rw[e];exact h.one
theorem OX {t:DT}(h:Holds w t):Holds w (t.dead p):=by
 rcases T.dead_cases p t with e|⟨e,_⟩
 ·rwa [e]
 ·rw[e];exact .any
theorem xT (p:Nat→Nat→Bool)(q:Nat→Nat→Bool→Bool)(s:DSl):bh (s.dead p q)=(bh s).map (List.map (T.dead p)):=by
 cases s with
 |al h c st lo len=>simp only[Sl.dead];split<;>rfl
 |pe h c st i off=>simp only[Sl.dead];split<;>rfl
 |im k b ts off =>
  simp only[Sl.dead];split
  ·split<;>rfl
  ·rfl
 |_=>rfl
theorem MS (p:Nat→Nat→Bool)(q:Nat→Nat→Bool→Bool)(D:DSt)(h c:Nat):aw (St.dead p q D) h c=(aw D h c).map (T.dead p):=by
 unfold aw St.dead;rw[WQ];cases D[h]? with
 |none=>rfl
 |some s =>
  simp only[WB,Wy,xT];cases bh s with
  |none=>rfl
  |some cs=>simp[WQ]
theorem iR {c:Nat}{t:DT}(e:aw D h c=some t)(a:t.isOwn=true):aw (St.dead p q D) h c=some t:=by rw[MS,e,WB,T.dead_own a]
theorem LB {c:Nat}{n:Nat}(e:fi D h c st d z n):fi (St.dead p q D) h c st d z n:=by obtain⟨t,b,a,f⟩:=e;exact⟨t,iR b a,a,f⟩
theorem Kj {b:Nat×Nat}{ts:List DT}(e:D[h]?=some (.box b ts)):(St.dead p q D)[h]?=some (.box b (ts.map (T.dead p))):=by unfold St.dead;rw[WQ,e];rfl
theorem wI {ts:List DT}{cs:List Value}(h:VCells ts cs):VCells (ts.map (T.dead p)) cs:=by refine⟨by simpa using h.1,fun i t y hi a=>?_⟩;rw[WQ,WD]at hi;obtain⟨t',hi,rfl⟩:=hi;exact Ct (h.2 i t' y hi a)
theorem QS {b:Nat×Nat}{ts:List DT}(h:Lies w b ts):Lies w b (ts.map (T.dead p)):=by obtain⟨c,e,f,hb,hv⟩:=h;refine⟨c,e,f,hb,fun j t a=>?_⟩;rw[WQ,WD]at a;obtain⟨t',a,rfl⟩:=a;obtain⟨y,d,g⟩:=hv j t' a;exact⟨y,d,Ct g⟩
theorem Oq (l:∀h c st d z n,fi D h c st d z n→fi D' h c st d z n)(hb:∀(h:Nat)(b:Nat×Nat)(ts:List DT),D[h]?=some (Sl.box b ts)→∃ts':List DT,D'[h]?=some (Sl.box b ts')){s:DSl}(h:VS D s y):VS D' s y:=by
 cases s with
 |al m c st lo len =>obtain⟨d,z,n,a,e,g⟩:=h;exact⟨d,z,n,a,l _ _ _ _ _ _ e,g⟩
 |pe m c st i off =>obtain⟨d,z,n,e,g⟩:=h;exact⟨d,z,n,l _ _ _ _ _ _ e,g⟩
 |pb m off =>obtain⟨b,ts,e,g⟩:=h;obtain⟨ts',j⟩:=hb _ _ _ e;exact⟨b,ts',j,g⟩
 |clo f hs =>obtain⟨o,e,g,j⟩:=h;refine⟨o,e,fun i h b hi k=>?_,j⟩;obtain⟨ts,p⟩:=g i h b hi k;exact hb _ _ _ p
 |_=>exact h
theorem On {s:DSl}(h:VS D s y):VS (St.dead p q D) (s.dead p q) y:=by
 have a:VS (St.dead p q D) s y:=Oq (fun _ _ _ _ _ _=>LB) (fun _ _ _ e=>⟨_,Kj e⟩) h;cases s with
 |one t=>exact Ct h
 |agg ts =>obtain⟨cs,d,f⟩:=h;exact⟨cs,d,wI f⟩
 |al l c st lo len=>simp only[Sl.dead];split<;>first|trivial|exact a
 |pe l c st i off=>simp only[Sl.dead];split<;>first|trivial|exact a
 |im k b ts off =>
  simp only[Sl.dead];split
  ·split<;>first|trivial|exact a
  ·exact a
 |tup rs =>
  obtain⟨m,d,f,n⟩:=h;refine⟨m,d,by simpa using f,fun i r v hi hv=>?_⟩;rw[WQ,WD]at hi;obtain⟨o,hi,rfl⟩:=hi;have:=n i o v hi hv;unfold VPart at *;simp only;split
  ·rename_i g;simp only[g,W8]at this;obtain⟨cs,g1,j⟩:=this;exact⟨cs,g1,wI j⟩
  ·rename_i g;simp only[g]at this;obtain⟨t,g1,j⟩:=this;exact⟨t.dead p,by rw[g1];rfl,Ct j⟩
 |_=>exact a
theorem BZ {s:DSl}(h:u∈an (s.dead p q)):
  ∃v∈an s,u=v∨(u = .any):=by
 have a:∀(ts:List DT),u∈ts.map (T.dead p)→∃v∈ts,u=v∨u = .any:=by
  intro ts d;obtain⟨v,hv,rfl⟩:=WU.1 d;rcases T.dead_cases p v with e|⟨e,_⟩
  ·exact⟨v,hv,.inl e⟩
  ·exact⟨v,hv,.inr e⟩
 cases s with
 |one t=>exact a [t] h
 |agg ts=>exact a ts h
 |box b ts=>exact a ts h
 |al j c st lo len=>simp only[Sl.dead]at h;split at h<;>simp[an]at h
 |pe j c st i off=>simp only[Sl.dead]at h;split at h<;>simp[an]at h
 |im k b ts off =>
  simp only[Sl.dead]at h;split at h
  ·split at h
   ·simp[an]at h
   ·exact⟨u,h,.inl rfl⟩
  ·exact⟨u,h,.inl rfl⟩
 |tup rs =>simp only[Sl.dead,an,WP,WU]at h;obtain⟨r,⟨g,l,rfl⟩,d⟩:=h;obtain⟨v,hv,e⟩:=a g.2 d;exact⟨v,by simp only[an,WP];exact⟨g,l,hv⟩,e⟩
 |any=>simp[Sl.dead,an]at h
 |pb=>simp[Sl.dead,an]at h
 |clo=>simp[Sl.dead,an]at h
 |fni f caps=>exact⟨u,h,.inl rfl⟩
theorem NT {s:DSl}(h:u∈rootsO (s.dead p q)):
  ∃v∈rootsO s,u=v∨(u = .any):=by
 have a:∀(ts:List DT),u∈ts.map (T.dead p)→∃v∈ts,u=v∨u = .any:=by
  intro ts d;obtain⟨v,hv,rfl⟩:=WU.1 d;rcases T.dead_cases p v with e|⟨e,_⟩
  ·exact⟨v,hv,.inl e⟩
  ·exact⟨v,hv,.inr e⟩
 cases s with
 |one t=>exact a [t] h
 |agg ts=>exact a ts h
 |box b ts=>exact a ts h
 |al j c st lo len=>simp only[Sl.dead]at h;split at h<;>simp[rootsO]at h
 |pe j c st i off=>simp only[Sl.dead]at h;split at h<;>simp[rootsO]at h
 |im k b ts off =>
  simp only[Sl.dead]at h;split at h
  ·split at h<;>simp[rootsO]at h
  ·simp[rootsO]at h
 |tup rs =>simp only[Sl.dead,rootsO,WP,WU]at h;obtain⟨r,⟨g,l,rfl⟩,d⟩:=h;obtain⟨v,hv,e⟩:=a g.2 d;exact⟨v,by simp only[rootsO,WP];exact⟨g,l,hv⟩,e⟩
 |any=>simp[Sl.dead,rootsO]at h
 |pb=>simp[Sl.dead,rootsO]at h
 |clo=>simp[Sl.dead,rootsO]at h
 |fni f caps=>simp[Sl.dead,rootsO]at h
theorem HM {s:DSl}(h:MemS w s):MemS w (s.dead p q):=by
 obtain⟨f,g,a⟩:=h;refine⟨fun u d=>?_,fun u d e=>?_,?_⟩
 ·obtain⟨v,hv,rfl|rfl⟩:=BZ d
  ·exact f _ hv
  ·exact .any
 ·obtain⟨v,hv,rfl|rfl⟩:=NT d
  ·exact g _ hv e
  ·cases e
 ·cases s with
  |box b ts=>exact⟨QS a.1,by simpa using a.2⟩
  |al j c st lo len=>simp only[Sl.dead];split<;>trivial
  |pe j c st i off=>simp only[Sl.dead];split<;>trivial
  |im k b ts off =>
   simp only[Sl.dead];split
   ·split
    ·trivial
    ·exact a
   ·exact a
  |_=>exact a
theorem Eq (hc:∀h c t,aw D h c=some t→t.isOwn=true→aw D' h c=some t)(h:bQ cx D u):bQ cx D' u:=by
 cases u with
 |v x=>trivial
 |any=>trivial
 |s k d z r =>
  cases k with
  |own=>trivial
  |far=>exact h
  |lent f c g =>obtain⟨t,b,a,e⟩:=h;exact⟨t,hc _ _ _ b a,a,e⟩
theorem MC (hc:∀h c t,aw D h c=some t→t.isOwn=true→aw D' h c=some t){b:Nat}{ts:List DT}(h:qk cx D k b ts):qk cx D' k b ts:=by
 cases k with
 |own=>exact h
 |far=>exact h
 |lent f c g =>obtain⟨t,d,a,e⟩:=h;exact⟨t,hc _ _ _ d a,a,e⟩
theorem Ep (hc:∀h c t,aw D h c=some t→t.isOwn=true→aw D' h c=some t){s:DSl}(h:fa cx D s):fa cx D' s:=by
 cases s with
 |im k b ts off=>exact MC hc h
 |fni f caps=>exact h
 |_=>exact fun t a=>Eq hc (h t a)
theorem En {s:DSl}(h:fa cx D s):fa cx (St.dead p q D) (s.dead p q):=by
 have a:=Ep (D':=St.dead p q D) (fun h c t e l=>iR e l) h;have j:(∀t∈an s,bQ cx (St.dead p q D) t)→∀t∈an (s.dead p q),bQ cx (St.dead p q D) t:=by
  intro g t d;obtain⟨v,hv,rfl|rfl⟩:=BZ d
  ·exact g _ hv
  ·trivial
 cases s with
 |one t=>exact j a
 |agg t=>exact j a
 |box b t=>exact j a
 |tup t=>exact j a
 |im k b ts off =>
  simp only[Sl.dead];split
  ·split
   ·exact fun t d=>by simp[an]at d
   ·exact a
  ·exact a
 |fni f caps=>exact a
 |al m c st lo len=>simp only[Sl.dead];split<;>exact fun t d=>by simp[an]at d
 |pe m c st i off=>simp only[Sl.dead];split<;>exact fun t d=>by simp[an]at d
 |any=>exact a
 |pb=>exact a
 |clo=>exact a
theorem zt (p:Nat→Nat→Bool)(q:Nat→Nat→Bool→Bool)(s:DSl):ownBl (s.dead p q)=ownBl s:=by
 have a:∀ts:List DT,(ts.map (T.dead p)).flatMap ownR=ts.flatMap ownR:=by
  intro ts;induction ts with
  |nil=>rfl
  |cons t ts d=>rw[WT,W1,W1,d,BV]
 cases s with
 |one t=>exact BV p t
 |agg ts=>exact a ts
 |box b ts=>simp only[Sl.dead,ownBl,a]
 |al e c st lo len=>simp only[Sl.dead];split<;>rfl
 |pe e c st i off=>simp only[Sl.dead];split<;>rfl
 |im k b ts off =>
  simp only[Sl.dead];split
  ·split<;>rfl
  ·rfl
 |tup rs =>
  simp only[Sl.dead,ownBl];induction rs with
  |nil=>rfl
  |cons r rs d=>simp only[WT,W1,a,d]
 |_=>rfl
theorem m5 (p:Nat→Nat→Bool)(q:Nat→Nat→Bool→Bool)(D:DSt):(St.dead p q D).flatMap ownBl=D.flatMap ownBl:=by
 unfold St.dead;induction D with
 |nil=>rfl
 |cons s D a=>simp only[WT,W1,zt,a]
theorem Inv.dead (I:Inv cx D P tm w)(p:Nat→Nat→Bool)(q:Nat→Nat→Bool→Bool):
  Inv cx (St.dead p q D) P tm w where
 size:=by have:=I.size;simpa[St.dead]using this
 val t s hs:=by unfold St.dead at hs;rw[WQ,WD]at hs;obtain⟨s',hs,rfl⟩:=hs;exact On (I.val t s' hs)
 mem s hs:=by obtain⟨s',a,rfl⟩:=WU.1 hs;exact HM (I.mem s' a)
 kind s hs:=by obtain⟨s',a,rfl⟩:=WU.1 hs;exact En (I.kind s' a)
 pend:=I.pend
 once:=by unfold bF;rw[m5];exact I.once
 bnd:=by unfold bF;rw[m5];exact I.bnd
 frame:=I.frame
theorem xU (t:Nat)(s:DSl):bh (s.gone t)=bh s:=by
 cases s with
 |pb h off=>simp only[Sl.gone];split<;>rfl
 |clo f hs=>simp only[Sl.gone];split<;>rfl
 |_=>rfl
theorem CV (t:Nat)(D:DSt)(h c:Nat):aw (D.map (Sl.gone t)) h c=aw D h c:=by
 unfold aw;rw[WQ];cases D[h]? with
 |none=>rfl
 |some s=>simp only[WB,Wy,xU]
theorem B1 (t:Nat)(s:DSl):an (s.gone t)=an s:=by
 cases s with
 |pb h off=>simp only[Sl.gone];split<;>rfl
 |clo f hs=>simp only[Sl.gone];split<;>rfl
 |_=>rfl
theorem Dn (t:Nat)(s:DSl):rootsO (s.gone t)=rootsO s:=by
 cases s with
 |pb h off=>simp only[Sl.gone];split<;>rfl
 |clo f hs=>simp only[Sl.gone];split<;>rfl
 |_=>rfl
theorem qZ (t:Nat)(s:DSl):ownBl (s.gone t)=ownBl s:=by
 cases s with
 |pb h off=>simp only[Sl.gone];split<;>rfl
 |clo f hs=>simp only[Sl.gone];split<;>rfl
 |_=>rfl
theorem Oo {s:DSl}(h:VS D s y):VS (D.map (Sl.gone t)) (s.gone t) y:=by
 have a:VS (D.map (Sl.gone t)) s y:=Oq (D:=D)
  (fun h c st d z n e=>by unfold fi at *;rw[CV];exact e)
  (fun h b ts e=>⟨ts,by rw[WQ,e];rfl⟩) h
 cases s with
 |pb h off=>simp only[Sl.gone];split<;>first|trivial|exact a
 |clo f hs=>simp only[Sl.gone];split<;>first|trivial|exact a
 |_=>exact a
theorem HN {s:DSl}(h:J9 w s):J9 w (s.gone t):=by
 cases s with
 |pb h off=>simp only[Sl.gone];split<;>trivial
 |clo f hs=>simp only[Sl.gone];split<;>trivial
 |_=>exact h
theorem Eo {s:DSl}(h:fa cx D s):fa cx (D.map (Sl.gone t)) (s.gone t):=by
 have b:=Ep (D':=D.map (Sl.gone t)) (fun h c u e _=>by rw[CV];exact e) h;cases s with
 |pb h off=>simp only[Sl.gone];split<;>exact fun t a=>by simp[an]at a
 |clo f hs=>simp only[Sl.gone];split<;>exact fun t a=>by simp[an]at a
 |_=>exact b
theorem Inv.gone (I:Inv cx D P tm w)(t:Nat):Inv cx (D.map (Sl.gone t)) P tm w where
 size:=by have:=I.size;simpa using this
 val u s hs:=by rw[WQ,WD]at hs;obtain⟨s',hs,rfl⟩:=hs;exact Oo (I.val u s' hs)
 mem s hs:=by obtain⟨s',a,rfl⟩:=WU.1 hs;have:=I.mem s' a;exact⟨by rw[B1];exact this.1,by rw[Dn];exact this.2.1,HN this.2.2⟩
 kind s hs:=by obtain⟨s',a,rfl⟩:=WU.1 hs;exact Eo (I.kind s' a)
 pend:=I.pend
 once:=by
  have:(D.map (Sl.gone t)).flatMap ownBl=D.flatMap ownBl:=by rw[Yq];exact WV (fun f=>List.flatMap f D) (funext (qZ t))
  unfold bF;rw[this];exact I.once
 bnd:=by
  have:(D.map (Sl.gone t)).flatMap ownBl=D.flatMap ownBl:=by rw[Yq];exact WV (fun f=>List.flatMap f D) (funext (qZ t))
  unfold bF;rw[this];exact I.bnd
 frame:=I.frame
def c9 (t:Nat)(D:DSt):DSt:=(St.dead (atH t) (qH t) D).map (Sl.gone t)
theorem Kr (t:Nat)(u:DT)(c:Nat)(a:Bool)(d:Dec)(z:Nat)(r:List (List DT)):u.dead (atH t) ≠ .s (.lent t c a) d z r:=by
 cases u with
 |v x=>simp[T.dead]
 |any=>simp[T.dead]
 |s k b f g =>
  cases k with
  |own=>simp[T.dead]
  |far=>simp[T.dead]
  |lent h i a =>
   simp only[T.dead,atH];by_cases e:h=t
   ·subst e;simp
   ·simp[e]
theorem ra :∀s∈c9 t D,¬cZ t s:=by
 intro s hs a;unfold c9 St.dead at hs;rw[Xk]at hs;obtain⟨u,j,rfl⟩:=WU.1 hs;have l:∀ts:List DT,¬ ∃u∈ts.map (T.dead (atH t)),∃c g d z r,u = .s (.lent t c g) d z r:=by rintro ts ⟨u,j,c,g,d,z,r,e⟩;obtain⟨v,hv,rfl⟩:=WU.1 j;exact Kr t v c g d z r e
 cases u with
 |any=>exact a
 |one v=>obtain⟨c,g,d,z,r,e⟩:=a;exact Kr t v c g d z r e
 |agg ts=>exact l ts a
 |box b ts=>exact l ts a
 |al h c st lo len =>
  simp only[Function.comp,Sl.dead,qH]at a;by_cases e:h=t
  ·subst e;simp[Sl.gone,cZ]at a
  ·simp[e,Sl.gone,cZ]at a
 |pe h c st i off =>
  simp only[Function.comp,Sl.dead,qH]at a;by_cases e:h=t
  ·subst e;simp[Sl.gone,cZ]at a
  ·simp[e,Sl.gone,cZ]at a
 |pb h off =>
  simp only[Function.comp,Sl.dead,Sl.gone]at a;by_cases e:h=t
  ·simp[e,cZ]at a
  ·simp[e,cZ]at a
 |clo f m =>
  simp only[Function.comp,Sl.dead,Sl.gone]at a;by_cases e:t∈m
  ·simp[e,cZ]at a
  ·simp[e,cZ]at a
 |im k b ts off =>
  cases k with
  |own=>exact a
  |far=>exact a
  |lent h c g =>
   simp only[Function.comp,Sl.dead,atH]at a;by_cases e:h=t
   ·subst e;simp[Sl.gone,cZ]at a
   ·simp[e,Sl.gone,cZ]at a
 |fni f caps=>exact a
 |tup rs =>obtain⟨p,n,u,j,c,g,d,z,r,e⟩:=a;obtain⟨o,q,rfl⟩:=WU.1 n;exact l o.2 ⟨u,j,c,g,d,z,r,e⟩
theorem Inv.quiet (I:Inv cx D P tm w)(t:Nat):Inv cx (c9 t D) P tm w:=(I.dead _ _).gone t
theorem bY {α:Type}(f:α→List Nat)(x:α)(b:Nat):∀(l:List α)(t:Nat)(y:α),l[t]?=some y →
  (f y).count b+((l.set t x).flatMap f).count b=(f x).count b+(l.flatMap f).count b
 |[],t,y,h=>by simp at h
 |a::l,0,y,h=>by simp at h;subst h;simp only[List.set_cons_zero,W1,W3];omega
 |a::l,t+1,y,h=>by simp only[Yp]at h;have c:=bY f x b l t y h;simp only[List.set_cons_succ,W1,W3];omega
theorem jr (P Q:List (DT×Value))(b:Nat):bc (P++Q) b=bc P b+bc Q b:=by unfold bc;rw[XR,W3]
theorem cX (b:Nat):bc [] b=0:=rfl
theorem lF (p:DT×Value)(P:List (DT×Value))(b:Nat):bc (p::P) b=(ownR p.1).count b+bc P b:=by unfold bc;rw[W1,W3]
theorem Inv.fillF {Q:List (DT×Value)}(I:Inv cx D (P++Q) tm w){i s:DSl}(F:Nat→Nat)(j:∀b,0<F b→F b≤1∧bF D b+bc (P++Q) b=0∧cx.may b∧b<w.heap.size)(c:D[t]?=some i)(k:∀s∈D,¬cZ t s)(l:¬cZ t s)(hv:VS D s y)(m:MemS w s)(n:fa cx D s)(o:∀b,(ownBl s).count b≤bc P b+F b):Inv cx (D.set t s) Q (tm.setIfInBounds t y) w:=by
 have d:t<D.length:=by
  rcases WI t D.length with g|g
  ·exact g
  ·rw[WF g]at c;cases c
 have a:∀b,bF (D.set t s) b+bc Q b≤bF D b+bc (P++Q) b+F b:=by intro b;have f:=bY ownBl s b D t i c;have q:=o b;rw[jr];unfold bF;omega
 refine⟨by have:=I.size;simpa using this,fun u s' hs=>?_,fun s' hs=>?_,fun s' hs=>?_,fun p r=>I.pend p (W5.2 (.inr r)),
  fun b=>?_,fun b hb=>?_,I.frame⟩
 ·by_cases e:u=t
  ·subst e;rw[WN d]at hs;cases hs;have:u<tm.size:=by rw[←I.size];exact d
   simp only[Xo,Array.getElem?_setIfInBounds_self,this,W8,YA];exact AS l hv
  ·rw[WR (fun h=>e h.symm)]at hs;have f:=I.val u s' hs;simp only[Xo]at f ⊢;rw[Y6 (fun h=>e h.symm)];exact AS (k s' (WC hs)) f
 ·rcases XC hs with h|rfl
  ·exact I.mem s' h
  ·exact m
 ·rcases XC hs with h|rfl
  ·exact sM (k s' h) (I.kind s' h)
  ·exact sM l n
 ·have f:=a b;have q:=I.once b;rcases Xt (F b)with g|g
  ·omega
  ·have:=j b g;omega
 ·have f:=a b;rcases Xt (F b)with g|g
  ·exact I.bnd b (by omega)
  ·exact(j b g).2.2
theorem Inv.fill {Q:List (DT×Value)}(I:Inv cx D (P++Q) tm w){c s:DSl}(a:D[t]?=some c)(d:∀s∈D,¬cZ t s)(e:¬cZ t s)(hv:VS D s y)(f:MemS w s)(g:fa cx D s)(i:∀b,(ownBl s).count b≤bc P b):Inv cx (D.set t s) Q (tm.setIfInBounds t y) w :=
 I.fillF (fun _=>0) (fun b h=>absurd h (Yf 0)) a d e hv f g i
theorem Inv.take (I:Inv cx D P tm w){a:DSl}{cs:List (DT×Value)}(hs₀:D[t]?=some a)(o:∀p∈cs,p.1∈rootsO a∧p.1∈an a∧VT p.1 p.2)(O:∀p∈cs,∀h c q d z r,p.1 ≠ .s (.lent h c q) d z r)(y:∀b,bc cs b≤(ownBl a).count b)(A:∀k b ts off,a ≠ .im k b ts off)(B:∀f caps,a ≠ .fni f caps):Inv cx (bm t D) (cs++P) tm w:=by
 have j:=I.quiet t;have hs:(c9 t D)[t]?=some ((a.dead (atH t) (qH t)).gone t):=by unfold c9 St.dead;rw[WQ,WQ,hs₀];rfl
 have e:bm t D=(c9 t D).set t .any:=rfl;have C:t<(c9 t D).length:=by
  rcases WI t (c9 t D).length with g|g
  ·exact g
  ·rw[WF g]at hs;cases hs
 have F:ownBl ((a.dead (atH t) (qH t)).gone t)=ownBl a:=by rw[qZ,zt]
 have i:∀b,bF (bm t D) b+bc (cs++P) b≤bF (c9 t D) b+bc P b:=by intro b;have n:=bY ownBl (Sl.any:DSl) b (c9 t D) t _ hs;have L:=y b;rw[jr,e];rw[F]at n;unfold bF;have V:(ownBl (Sl.any:DSl)).count b=0:=rfl;omega
 have l:a∈D:=WC hs₀;refine⟨by have:=j.size;rw[e];simpa using this,fun u s' hs'=>?_,fun s' hs'=>?_,fun s' hs'=>?_,fun p Q=>?_,
  fun b=>Xu (i b) (j.once b),fun b hb=>j.bnd b (Xf hb (i b)),I.frame⟩
 ·rw[e]at hs' ⊢;by_cases M:u=t
  ·subst M;rw[WN C]at hs';cases hs';trivial
  ·rw[WR (fun h=>M h.symm)]at hs';exact AS (ra s' (WC hs')) (j.val u s' hs')
 ·rw[e]at hs';rcases XC hs' with h|rfl
  ·exact j.mem s' h
  ·exact⟨fun t m=>by simp[an]at m,fun t m=>by simp[rootsO]at m,trivial⟩
 ·rw[e]at hs' ⊢;rcases XC hs' with h|rfl
  ·exact sM (ra s' h) (j.kind s' h)
  ·exact fun t m=>by simp[an]at m
 ·rcases W5.1 Q with h|h
  ·obtain⟨G,n,L⟩:=o p h;have N:=I.mem a l;refine⟨L,N.1 _ n,fun y=>N.2.1 _ G y,fun H=>?_⟩;have R:bQ cx D p.1:=by
    have:=I.kind a l;cases a with
    |im k b ts off=>exact absurd rfl (A k b ts off)
    |fni f caps=>exact absurd rfl (B f caps)
    |_=>exact this _ n
   have J:=O p h;generalize p.1=u at *;cases u with
   |v x=>intro x K;simp[bl]at K
   |any=>intro x K;simp[bl]at K
   |s k d z r =>
    cases k with
    |own=>simp[T.isOwn]at H
    |far=>exact R
    |lent S U q=>exact absurd rfl (J S U q d z r)
  ·exact I.pend p h
theorem NS {s:DSl}:¬cZ t (s.clean t):=by
 have h:s.clean t∈c9 t [s]:=by simp[c9,St.dead,Sl.clean]
 exact ra _ h
theorem PC (t:Nat)(D:DSt)(s:DSl):(bm t D).set t s=(c9 t D).set t s:=by unfold bm c9;rw[Zs]
theorem SG {s:DSl}(h:VS D s y):VS (c9 t D) (s.clean t) y:=Oo (On h)
theorem QT {s:DSl}(h:MemS w s):MemS w (s.gone t):=
 ⟨by rw[B1];exact h.1,by rw[Dn];exact h.2.1,HN h.2.2⟩
theorem OZ {s:DSl}(h:MemS w s):MemS w (s.clean t):=QT (HM h)
theorem ME {s:DSl}(h:fa cx D s):fa cx (c9 t D) (s.clean t):=Eo (En h)
theorem Dh (t:Nat)(s:DSl):ownBl (s.clean t)=ownBl s:=by unfold Sl.clean;rw[qZ,zt]
theorem EJ (t:Nat)(D:DSt)(b:Nat):bF (c9 t D) b=bF D b:=by
 unfold bF c9;have:((St.dead (atH t) (qH t) D).map (Sl.gone t)).flatMap ownBl=D.flatMap ownBl:=by rw[Yq, ←m5 (atH t) (qH t) D];exact WV (fun f=>List.flatMap f (St.dead (atH t) (qH t) D)) (funext (qZ t))
 rw[this]
theorem Inv.putF {Q:List (DT×Value)}(I:Inv cx D (P++Q) tm w){s:DSl}(F:Nat→Nat)(a:∀b,0<F b→F b≤1∧bF D b+bc (P++Q) b=0∧cx.may b∧b<w.heap.size)(c:t<D.length)(hv:VS D s y)(d:MemS w s)(e:fa cx D s)(f:∀b,(ownBl s).count b≤bc P b+F b):
  Inv cx (bj D (some t) s) Q (tm.setIfInBounds t y) w:=by
 show Inv cx ((bm t D).set t (s.clean t)) Q _ w;rw[PC];have g:t<(c9 t D).length:=by simpa[c9,St.dead]using c
 exact(I.quiet t).fillF F (fun b hb=>by rw[EJ];exact a b hb) (WE g) ra NS (SG hv) (OZ d) (ME e) (fun b=>by rw[Dh];exact f b)
theorem Inv.put {Q:List (DT×Value)}(I:Inv cx D (P++Q) tm w){s:DSl}(a:t<D.length)(hv:VS D s y)(c:MemS w s)(d:fa cx D s)(e:∀b,(ownBl s).count b≤bc P b):
  Inv cx (bj D (some t) s) Q (tm.setIfInBounds t y) w :=
 I.putF (fun _=>0) (fun b h=>absurd h (Yf 0)) a hv c d e
theorem Inv.drewn (I:Inv cx D P tm w):Inv cx D P tm w.drew where
 size:=I.size
 val:=I.val
 mem s hs:=by obtain⟨a,b,c⟩:=I.mem s hs;refine⟨fun t d=>(a t d).frame fun _ _ _=>rfl,fun t d e=>(b t d e).frame fun _ _ _=>rfl,?_⟩;cases s<;>exact c
 kind:=I.kind
 pend p f:=by obtain⟨a,b,c,g⟩:=I.pend p f;exact⟨a,b.frame fun _ _ _=>rfl,fun e=>(c e).frame fun _ _ _=>rfl,g⟩
 once:=I.once
 bnd:=I.bnd
 frame:=⟨I.frame.os,I.frame.tape,I.frame.output,I.frame.size,I.frame.same⟩
theorem O6 {t:DT}:VT (t.kd k) y↔VT t y:=by
 cases t with
 |v x=>exact .rfl
 |any=>exact .rfl
 |s k' d z r=>cases k'<;>exact .rfl
theorem vv {k':Kd}{r:List (List DT)}(h:Holds w (.s k d z r)):Holds w (.s k' d z r):=by
 cases h with
 |e=>exact .e _ _ _
 |s _ _ _ _ h hsp c e f hb hcap hz hv hh=>exact .s _ _ _ _ h hsp c e f hb hcap hz hv hh
theorem J7 {t:DT}(h:Holds w t):Holds w (t.kd k):=by
 cases t with
 |v x=>exact h
 |any=>exact h
 |s k' d z r =>
  cases k' with
  |own=>exact vv h
  |_=>exact h
theorem th (h c:Nat)(a:Bool)(t:DT):(t.kd (.lent h c a)).isOwn=false:=by
 cases t with
 |v x=>rfl
 |any=>rfl
 |s k' d z r=>cases k'<;>rfl
theorem fK {t:DT}(h:t.isOwn=false):ownR t=[]:=by unfold ownR;rw[h];rfl
structure Tells (cx:Cx)(D:DSt)(w:World)(s:DSl)(y:Value):Prop where
 val:VS D s y
 mem:MemS w s
 kind:fa cx D s
 noown:ownBl s=[]
section
variable  {δ β : Type}
def uL (D:St δ β)(t:Nat):Option (Sl δ β):=
 match D[t]? with
 |some (.one (.s .own _ _ rows))=>some (.al t 0 [] 0 rows.length)
 |some (.one u)=>some (.one u)
 |some (.agg ts)=>some (.agg (ts.mapIdx fun c u=>u.kd (.lent t c true)))
 |some (.box _ _)=>some (.pb t 0)
 |some (.al h c st lo len)=>some (.al h c st lo len)
 |some (.pb h off)=>some (.pb h off)
 |some (.pe h c st i off)=>some (.pe h c st i off)
 |some (.im k b ts off)=>some (.im k b ts off)
 |some (.fni f caps)=>some (.fni f caps)
 |some (.clo f hs)=>some (.clo f hs)
 |_=>none
def Ow:Value→Bool| .slice _ _ _=>false|x=>x.oneCell'
def Gf (nil:δ):Value→Option (Sl δ β)| .slice none 0 0=>some (.one (.s .own nil 0 []))| .pointer none=>some .any|x=>if Ow x then some (.one (.v x))else none
def opd (nil:δ)(D:St δ β):Operand→Option (Sl δ β)| .tmp t=>uL D t| .const x=>Gf nil x| .func f=>some (.fni f [])| .global _=>none
end
def nilD:Dec:=⟨0,0,0,true,none⟩
theorem Inv.copy (I:Inv cx D P tm w){s:DSl}(h:uL D t=some s):
  Tells cx D w s (tm.getD t undef):=by
 unfold uL at h;cases e:D[t]? with
 |none=>rw[e]at h;cases h
 |some p =>
  have hv:=I.val t p e;have a:=I.mem p (WC e);have g:=I.kind p (WC e);rw[e]at h;cases p with
  |any=>cases h
  |tup rs=>cases h
  |one u =>
   cases u with
   |v x=>cases h;exact⟨hv,a,g,rfl⟩
   |any=>cases h;exact⟨hv,a,g,rfl⟩
   |s k d z rows =>
    cases k with
    |far=>cases h;exact⟨hv,a,g,rfl⟩
    |lent m K B=>cases h;exact⟨hv,a,g,rfl⟩
    |own =>
     cases h;refine⟨?_,⟨fun t j=>by simp[an]at j,fun t j=>by simp[rootsO]at j,trivial⟩,fun t j=>by simp[an]at j,rfl⟩;refine⟨d,z,rows.length,_,⟨.s .own d z rows,by simp[aw,e,bh],rfl,.own,rows,rfl,rfl⟩,by omega,hv,?_,fun _=>Dec.addr_none (a.2.1 (.s .own d z rows) (by simp[rootsO]) rfl).sp⟩;intro hc;have n:=a.2.1 (.s .own d z rows) (by simp[rootsO]) rfl;have hs:=n.sp;cases n with
     |nil d z h q C=>omega
     |s d z rows m=>simp[Dec.addr,m,hs]
  |agg ts =>
   cases h;refine⟨?_,⟨?_,?_,trivial⟩,?_,?_⟩
   ·obtain⟨cs,F,G,H⟩:=hv;refine⟨cs,F,by simpa using G,fun i u y hi J=>?_⟩;rw[Yi,WD]at hi;obtain⟨u',hi,rfl⟩:=hi;exact O6.2 (H i u' y hi J)
   ·intro u l;simp only[an,XK]at l;obtain⟨i,hi,rfl⟩:=l;exact J7 (a.1 _ (XW hi))
   ·intro u l n;simp only[rootsO,XK]at l;obtain⟨i,hi,rfl⟩:=l;rw[th]at n;cases n
   ·intro u l;simp only[an,XK]at l;obtain⟨i,hi,rfl⟩:=l;have o:=g (ts[i]) (XW hi);have hc:aw D t i=some ts[i]:=by simp[aw,e,bh]
    generalize ts[i]=u at *;cases u with
    |v x=>trivial
    |any=>trivial
    |s k d z r =>
     cases k with
     |own=>exact⟨_,hc,rfl,fun x A=>(by simp only[cS]at A ⊢;exact A),fun _=>⟨_,_,rfl,rfl⟩⟩
     |far=>exact o
     |lent h c B=>exact o
   ·simp only[ownBl,WY,XK];rintro u ⟨i,hi,rfl⟩;exact fK (th _ _ _ _)
  |box b ts =>cases h;refine⟨⟨b,ts,e,by rw[hv];rfl⟩,⟨fun t j=>by simp[an]at j,fun t j=>by simp[rootsO]at j,trivial⟩,fun t j=>by simp[an]at j,rfl⟩
  |al m c st lo len=>cases h;exact⟨hv,a,g,rfl⟩
  |pb m off=>cases h;exact⟨hv,a,g,rfl⟩
  |pe m c st i off=>cases h;exact⟨hv,a,g,rfl⟩
  |im k b ts off=>cases h;exact⟨hv,a,g,rfl⟩
  |fni f caps=>cases h;exact⟨hv,a,g,rfl⟩
  |clo f hs=>cases h;exact⟨hv,a,g,rfl⟩
theorem Tells.one_v (x:Value)(b:x.oneCell'=true):Tells cx D w (.one (.v x)) x :=
 ⟨⟨rfl,b⟩,⟨fun t a=>by simp[an]at a;subst a;exact .v x,(fun t a c=>by simp[rootsO]at a;subst a;cases c),trivial⟩,
  fun t a=>by simp[an]at a;subst a;trivial,rfl⟩
theorem Inv.opd (I:Inv cx D P a.tmps w){x:Operand}{s:DSl}(h:opd nilD D x=some s):
  Tells cx D w s (a.eval x):=by
 cases x with
 |tmp t=>exact I.copy h
 |global g=>cases h
 |func f =>simp only[Am.opd]at h;cases h;exact⟨rfl,⟨fun t b=>by simp[an]at b,fun t b=>by simp[rootsO]at b,fun p c=>by simp at c⟩,fun p c=>by simp at c,rfl⟩
 |const v =>
  simp only[Am.opd]at h;unfold Gf at h;split at h
  ·cases h;exact⟨rfl,⟨fun t b=>by simp[an]at b;subst b;exact .e _ _ _,(fun t b d=>by simp[rootsO]at b;subst b;exact .nil _ _ rfl rfl rfl),trivial⟩,
    fun t b=>by simp[an]at b;subst b;trivial,by simp[ownBl,ownR,T.isOwn,cS,nilD]⟩
  ·cases h;exact⟨trivial,⟨fun t b=>by simp[an]at b,fun t b=>by simp[rootsO]at b,trivial⟩,fun t b=>by simp[an]at b,rfl⟩
  ·split at h
   ·rename_i hc;cases h;exact .one_v _ (by
     unfold Ow at hc;split at hc
     ·cases hc
     ·exact hc)
   ·cases h
structure Grew (w w':World):Prop where
 os:w'.os=w.os
 tape:w'.tape=w.tape
 output:w'.output=w.output
 size:w.heap.size≤w'.heap.size
 same:∀b,b<w.heap.size→w'.heap[b]?=w.heap[b]?
theorem Grew.alloc (w:World)(o:Obj):Grew w (w.alloc o):=
 ⟨rfl,rfl,rfl,by simp,fun b hb=>by show(w.heap.push o)[b]?=_;rw[Array.getElem?_push,WM (by omega)]⟩
theorem Grew.drew (w:World):Grew w w.drew:=⟨rfl,rfl,rfl,Xj _,fun _ _=>rfl⟩
theorem Grew.refl (w:World):Grew w w:=⟨rfl,rfl,rfl,Xj _,fun _ _=>rfl⟩
theorem Grew.trans {a b c:World}(h:Grew a b)(k:Grew b c):Grew a c :=
 ⟨k.os.trans h.os,k.tape.trans h.tape,k.output.trans h.output,Xu h.size k.size,
  fun i hi=>(k.same i (Xf hi h.size)).trans (h.same i hi)⟩
theorem Lies.grew (g:Grew w w'){b:Nat×Nat}{ts:List DT}(h:Lies w b ts):Lies w' b ts:=by obtain⟨c,e,f,hb,hv⟩:=h;exact⟨c,e,f,by rw[g.same _ (d8 hb)];exact hb,hv⟩
theorem Free.grew (g:Grew w w'){b:Nat×Nat}{n:Nat}(a:b.1<w.heap.size)(h:Free w b n):Free w' b n:=by intro c e lo hi hb;rw[g.same _ a]at hb;exact h c e lo hi hb
theorem Lies.lt {b:Nat×Nat}{ts:List DT}(h:Lies w b ts):b.1<w.heap.size:=by obtain⟨c,e,f,hb,hv⟩:=h;exact d8 hb
theorem MemS.grew (g:Grew w w'){s:DSl}(h:MemS w s):MemS w' s:=by
 obtain⟨d,e,a⟩:=h;refine⟨fun t c=>(d t c).frame fun b _ hb=>g.same b hb,fun t c i=>(e t c i).frame fun b _ hb=>g.same b hb,?_⟩;cases s with
 |box b ts=>exact⟨a.1.grew g,a.2.grew g a.1.lt⟩
 |im k b ts off=>exact Lies.grew g a
 |fni f caps=>exact fun p j=>(a p j).grew g
 |_=>trivial
theorem Cx.Fr.grew (g:Grew w w')(h:cx.Fr w):cx.Fr w' :=
 ⟨g.os.trans h.os,g.tape.trans h.tape,g.output.trans h.output,Xu h.size g.size,
  fun b hb=>(g.same b (Xf hb.1 h.size)).trans (h.same b hb)⟩
theorem Inv.grew (I:Inv cx D P tm w)(g:Grew w w'):Inv cx D P tm w' where
 size:=I.size
 val:=I.val
 mem s hs:=(I.mem s hs).grew g
 kind:=I.kind
 pend p a:=by obtain⟨c,d,e,f⟩:=I.pend p a;exact⟨c,d.frame fun b _ hb=>g.same b hb,fun h=>(e h).frame fun b _ hb=>g.same b hb,f⟩
 once:=I.once
 bnd b hb:=⟨(I.bnd b hb).1,Xf (I.bnd b hb).2 g.size⟩
 frame:=I.frame.grew g
theorem Tells.grew {s:DSl}(h:Tells cx D w s y)(g:Grew w w'):Tells cx D w' s y :=
 ⟨h.val,h.mem.grew g,h.kind,h.noown⟩
section
inductive Sh where|bool|int (k:IntKind)|str|slice (e:Nat)|struct (offs:List Nat)|ptr (e:Nat)|fn|other deriving DecidableEq
def Sh.agg:Sh→Bool| .struct _=>true|_=>false
structure TI where
 size:Nat
 bytes:Nat
 zero:List (T Unit)
 sh:Sh
def zT (n:Nat):Value→T Unit| .slice none 0 0=>.s .own () n []|x=>.v x
def UK (P:Program):Nat→TypeId→List Nat
 | 0,_=>[]
 |k+1,t =>
  match P.underlying t with
  |some (.slice e)=>[match P.info? e with|some i=>i.size|none=>0]
  |some (.struct fs)=>fs.toList.flatMap fun f=>UK P k f.type
  |_=>[0]
def en (P:Program)(t:TypeId)(ys:List Value):List (T Unit):=ys.mapIdx fun j y=>zT ((UK P 6 t).getD j 0) y
def zH (P:Program):TypeDesc→Sh
 | .bool=>.bool
 | .int k=>.int k
 | .string=>.str
 | .slice e=>.slice e
 | .pointer e=>.ptr e
 | .func _ _ _=>.fn
 | .struct fs=>if fs.all (fun f=>(P.info? f.type).any fun i=>i.size != 0)then .struct (fs.toList.map (·.offset))else .other
 |_=>.other
def nu (P:Program)(t:TypeId):Option TI :=
 (P.info? t).bind fun i=>(P.underlying t).bind fun d=>i.zero.bind fun z =>if z.cells.toList.all (·.oneCell')then some { size:=i.size,bytes:=i.bytes,zero:=en P t z.cells.toList,sh:=zH P d }else none
structure Tab where
 ts:List (Nat×TI)
 eqs:List (Nat×List (Nat×Nat)):=[]
 pls:List (Nat×List (Nat×Nat)):=[]
 io:List (Nat×Nat):=[]
 ars:List (Nat×Nat):=[]
 addr:List (Nat×List Nat):=[]
 gv:List Nat:=[]
 pw:List (Nat×List Nat):=[]
def rU (P:Program)(t:TypeId):Option (List (Nat×Nat)):=
 match P.underlying t with
 |some (.struct fs)=>fs.toList.mapM (fun f=>(P.info? f.type).map fun i=>(f.offset,i.size))
 |_=>none
def Pg (P:Program)(t:TypeId):Option (List (Nat×Nat)):=
 match P.underlying t with
 | some (.struct fs) => if P.stoodInHeld t = false ∧ P.eqGuardType P.depth t = false ∧ fs.all (fun f => (f.name == "_") == false) = true then some (fs.toList.map fun f => (f.offset, f.type)) else none
 |_=>none
def SJ (P:Program)(t:TypeId):Option Nat :=
 match P.underlying t with
 |some (.array n e)=>match P.underlying e,P.info? e with|some (.pointer _),some i=>if i.size=1 then some n else none|_,_=>none
 |_=>none
def J6 (P:Program)(f:FuncId)(offs:List Nat):Prop :=∀(b:Nat×Nat)(w:World),Calls P f #[.pointer (some ⟨b.1,b.2,none⟩)] w fun e w'=>e = .returned (.agg (offs.map fun o=>Value.pointer (some ⟨b.1,b.2+o,none⟩)).toArray)∧Grew w w'
structure bz (P:Program)(tab:Tab):Prop where
 ts:∀p∈tab.ts,nu P p.1=some p.2
 eqs:∀p∈tab.eqs,Pg P p.1=some p.2
 pls:∀p∈tab.pls,rU P p.1=some p.2
 mixed:P.follows .mixedOrders=true
 ars:∀p∈tab.ars,SJ P p.1=some p.2
 addr:∀p∈tab.addr,J6 P p.1 p.2
def Tab.ti (tab:Tab)(t:Nat):Option TI:=tab.ts.lookup t
def Tab.pl (tab:Tab)(t:Nat):Option (List (Nat×Nat)):=tab.pls.lookup t
def Tab.eq (tab:Tab)(t:Nat):Option (List (Nat×Nat)):=tab.eqs.lookup t
theorem kg {α:Type}:∀{l:List (Nat×α)}{t:Nat}{x:α},l.lookup t=some x→(t,x)∈l
 |[],_,_,h=>by simp at h
 |(u,y)::l,t,x,h=>by
  rw[List.lookup_cons]at h;split at h
  ·rename_i e;cases h;have:t=u:=by simpa using e
   subst this;exact List.mem_cons_self
  ·exact Ya _ (kg h)
variable  {P : Program}{tab : Tab}
theorem Tab.ok (h:bz P tab){ti:TI}(e:tab.ti t=some ti):nu P t=some ti:=h.ts _ (kg e)
theorem Tab.okPl (h:bz P tab)(e:tab.pl t=some l):rU P t=some l:=h.pls _ (kg e)
theorem Tab.okEq (h:bz P tab)(e:tab.eq t=some l):Pg P t=some l:=h.eqs _ (kg e)
section
variable  {t : Nat}{ti : TI}
theorem iq (h:nu P t=some ti):∃i d z,P.info? t=some i∧P.underlying t=some d∧i.zero=some z∧i.size=ti.size∧i.bytes=ti.bytes∧ti.zero=en P t z.cells.toList∧ti.sh=zH P d∧z.cells.toList.all (·.oneCell')=true:=by
 unfold nu at h;cases hi:P.info? t with
 |none=>simp[hi]at h
 |some i =>
  cases hd:P.underlying t with
  |none=>simp[hi,hd]at h
  |some d =>
   cases hz:i.zero with
   |none=>simp[hi,hd,hz]at h
   |some z =>
    simp only[hi,hd,hz,Wy]at h;split at h
    ·rename_i a;cases h;exact⟨i,d,z,rfl,rfl,hz,rfl,rfl,rfl,rfl,a⟩
    ·cases h
theorem mC (h:nu P t=some ti)(w:World):(sizeOf t).run P w = .ok ti.size w:=by obtain⟨i,d,z,a,c,e,b,f,g,j,k⟩:=iq h;simp[sizeOf,typeInfo,a,b]
theorem gM (h:nu P t=some ti){e:Nat}(hs:ti.sh = .slice e):P.underlying t=some (.slice e):=by obtain⟨i,d,z,c,b,f,g,j,k,a,l⟩:=iq h;rw[b];rw[hs]at a;cases d<;>simp only[zH]at a<;>first|(cases a;done)|(split at a<;>cases a;done)|(cases a;rfl)
theorem OW (h:nu P t=some ti)(hs:ti.sh = .bool):P.underlying t=some .bool:=by obtain⟨i,d,z,c,b,e,f,g,j,a,k⟩:=iq h;rw[b];rw[hs]at a;cases d<;>simp only[zH]at a<;>first|(cases a;done)|(split at a<;>cases a;done)|rfl
theorem yF (h:nu P t=some ti)(hs:ti.sh = .str):P.underlying t=some .string:=by obtain⟨i,d,z,c,b,e,f,g,j,a,k⟩:=iq h;rw[b];rw[hs]at a;cases d<;>simp only[zH]at a<;>first|(cases a;done)|(split at a<;>cases a;done)|rfl
theorem FW (h:nu P t=some ti){k:IntKind}(hs:ti.sh = .int k):P.underlying t=some (.int k):=by obtain⟨i,d,z,c,b,e,f,g,j,a,l⟩:=iq h;rw[b];rw[hs]at a;cases d<;>simp only[zH]at a<;>first|(cases a;done)|(split at a<;>cases a;done)|(cases a;rfl)
theorem Sx (h:nu P t=some ti){offs:List Nat}(hs:ti.sh = .struct offs):
  ∃fs,P.underlying t=some (.struct fs)∧offs=fs.toList.map (·.offset)∧∀f∈fs,∃i,P.info? f.type=some i∧i.size≠0:=by
 obtain⟨i,d,z,e,c,g,j,k,l,b,m⟩:=iq h;rw[c];rw[hs]at b;cases d<;>simp only[zH]at b<;>first|(cases b;done)|skip
 split at b
 ·rename_i fs a;cases b;refine⟨fs,rfl,rfl,fun f hf=>?_⟩;rw[YX]at a;have:=a f hf;cases hi:P.info? f.type with
  |none=>simp[hi]at this
  |some i=>simp[hi]at this;exact⟨i,rfl,this⟩
 ·cases b
theorem Mz (h:nu P t=some ti)(a:ti.sh ≠ .other)(w:World):(isAgg t).run P w = .ok ti.sh.agg w:=by obtain⟨i,d,z,e,b,f,g,j,k,c,l⟩:=iq h;rw[c]at a ⊢;unfold isAgg;cases d<;>simp[run_underlying b,zH,Sh.agg]<;>simp[zH]at a;split<;>simp_all
theorem yG (h:nu P t=some ti)(w:World):∃z,(zeroValue t).run P w = .ok z w∧ti.zero=en P t z.cells.toList∧z.cells.toList.all (·.oneCell')=true:=by obtain⟨i,d,z,a,f,b,g,j,c,k,e⟩:=iq h;exact⟨z,by simp[zeroValue,typeInfo,a,b],c,e⟩
end
end
section
def P3 (op:BinOp)(k:IntKind)(a b:Int):Option Value :=
 match op with
 | .add=>some (.int k (k.wrap (a+b)))
 | .sub=>some (.int k (k.wrap (a-b)))
 | .mul=>some (.int k (k.wrap (a*b)))
 | .quo=>if b=0 then none else some (.int k (k.wrap (a.tdiv b)))
 | .rem=>if b=0 then none else some (.int k (a.tmod b))
 | .and=>some (.int k (k.wrap (BitVec.ofInt k.bits a &&& BitVec.ofInt k.bits b).toNat))
 | .or=>some (.int k (k.wrap (BitVec.ofInt k.bits a |||BitVec.ofInt k.bits b).toNat))
 | .xor=>some (.int k (k.wrap (BitVec.ofInt k.bits a ^^^ BitVec.ofInt k.bits b).toNat))
 | .eql=>some (.bool (a==b))
 | .neq=>some (.bool (a != b))
 | .lss=>some (.bool (decide (a<b)))
 | .leq=>some (.bool (decide (a≤b)))
 | .gtr=>some (.bool (decide (a>b)))
 | .geq=>some (.bool (decide (a≥b)))
 |_=>none
def shV (op:BinOp)(k:IntKind)(a b:Int):Option Value :=
 if b<0 then none else
 match op with
 | .shl=>some (.int k (k.wrap (a*2 ^ (min b.toNat k.bits))))
 | .shr=>some (.int k (a.fdiv (2 ^ (min b.toNat k.bits))))
 |_=>none
def maxStr:Nat:=4611686018427387904
def QK (op:BinOp)(a b:Zz):Option Value :=
 match op with
 | .add=>if a.size+b.size≤maxStr then some (.string (a++b))else none
 | .eql=>some (.bool (a.toList==b.toList))
 | .neq=>some (.bool (!(a.toList==b.toList)))
 | .lss=>some (.bool (Op.bytesLess a.toList b.toList))
 | .leq=>some (.bool (Op.bytesLess a.toList b.toList ||a.toList==b.toList))
 | .gtr=>some (.bool (!(Op.bytesLess a.toList b.toList ||a.toList==b.toList)))
 | .geq=>some (.bool (!Op.bytesLess a.toList b.toList))
 |_=>none
def AT (tab:Tab)(op:BinOp)(t:Nat)(x y:Value):Option Value :=
 match x,y with
 | .int k a,.int k' b =>
  match op with
  | .shl=>shV .shl k a b
  | .shr=>shV .shr k a b
  |op=>if k=k' then P3 op k a b else none
 | .string a,.string b=>QK op a b
 | .bool a,.bool b =>
  match tab.ti t with
  |some ti=>if ti.sh = .bool then(match op with| .eql=>some (.bool (a==b))| .neq=>some (.bool (!(a==b)))|_=>none)else none
  |none=>none
 |_,_=>none
variable  {P : Program}{tab : Tab}
theorem Ti {k:IntKind}{a b:Int}{z:Value}(t:TypeId)(w:World)(h:P3 op k a b=some z):
  (binOp op t (.int k a) (.int k b)).run P w = .ok z w:=by
 unfold P3 at h;cases op<;>simp only[Xd,reduceCtorEq]at h<;>try (subst h;simp[binOp,Op.intArith,Op.intBits,Op.intCmp];done)
 ·split at h
  ·cases h
  ·rename_i hb;cases h;simp[binOp,Op.intDiv,hb]
 ·split at h
  ·cases h
  ·rename_i hb;cases h;simp[binOp,Op.intDiv,hb]
theorem OT (c:op = .shl∨op = .shr){k k':IntKind}{a b:Int}{z:Value}(t:TypeId)(w:World)(h:shV op k a b=some z):
  (binOp op t (.int k a) (.int k' b)).run P w = .ok z w:=by
 unfold shV at h;split at h
 ·cases h
 ·rename_i hb;rcases c with rfl|rfl<;>simp only[Xd]at h<;>subst h<;>simp[binOp,Op.shift,hb]
theorem Ts {a b:Zz}{z:Value}(t:TypeId)(w:World)(h:QK op a b=some z):
  (binOp op t (.string a) (.string b)).run P w = .ok z w:=by
 unfold QK at h;cases op<;>simp only[Xd,reduceCtorEq]at h<;>try (subst h;simp[binOp,Op.stringOp];done)
 split at h
 ·rename_i hs;cases h;simp[binOp,Op.stringOp];unfold maxStr at hs;omega
 ·cases h
theorem SL (ok:bz P tab){t:TypeId}{x z:Value}(d e:Operand)(w:World)(h:AT tab op t x y=some z):
  (do eqGuard op t d e x y;binOp op t x y:Sem Value).run P w = .ok z w:=by
 unfold AT at h;split at h
 ·rename_i k a k' b;rw[eqGuard_at_int];split at h
  ·simpa using OT (.inl rfl) t w h
  ·simpa using OT (.inr rfl) t w h
  ·split at h
   ·rename_i f;subst f;simpa using Ti t w h
   ·cases h
 ·rw[eqGuard_at_string];simpa using Ts t w h
 ·rename_i a b;rw[eqGuard_at_bool];split at h
  ·rename_i ti c;split at h
   ·rename_i hs;have hb:=OW (Tab.ok ok c) hs;split at h
    ·cases h;simp[run_eql_bool w t a b hb]
    ·cases h;simp[run_neq_bool w t a b hb]
    ·cases h
   ·cases h
  ·cases h
 ·cases h
theorem SK {t:TypeId}{x z:Value}(h:AT tab op t x y=some z):z.oneCell'=true:=by
 unfold AT P3 shV QK at h;repeat' split at h
 all_goals first|(cases h;rfl)|(cases h;done)
def JY:Sh→Value→Value→Option Bool| .bool,.bool a,.bool b=>some (a==b)| .int k,.int c a,.int d b=>if c=k∧d=k then some (a==b)else none| .str,.string a,.string b=>some (a.toList==b.toList)|_,_,_=>none
def k8 {δ:Type}(tab:Tab)(us c:List (T δ)):List (Nat×Nat)→Option Bool
 |[]=>some true
 |(off,d)::r =>
  match tab.ti d,us[off]?,c[off]? with
  |some ti,some (.v a),some (.v b)=>if ti.size=1∧ti.sh.agg=false then(JY ti.sh a b).bind fun q=>(k8 tab us c r).map fun s=>q&&s else none
  |_,_,_=>none
def eqS {δ:Type}(tab:Tab)(op:BinOp)(t:Nat)(us a:List (T δ)):Option Value :=
 match op with
 | .eql=>((tab.eq t).bind (k8 tab us a)).map fun b=>.bool b
 | .neq=>((tab.eq t).bind (k8 tab us a)).map fun b=>.bool (!b)
 |_=>none
theorem Rc {ti:TI}(h:nu P t=some ti){a b:Value}{q:Bool}(e:JY ti.sh a b=some q)(d:Nat)(w:World):(Op.equalIn (d+1) t a b).run P w = .ok q w:=by
 unfold JY at e;split at e
 ·rename_i hs;cases e;exact run_equalIn_bool' w d t _ _ (OW h hs)
 ·rename_i k f a g b hs;split at e
  ·rename_i c;obtain⟨rfl,rfl⟩:=c;cases e;exact run_equalIn_int w d t _ _ _ _ (FW h hs)
  ·cases e
 ·rename_i hs;cases e;exact run_equalIn_string w d t _ _ (yF h hs)
 ·cases e
theorem CZ (ok:bz P tab){us l:List DT}{xs ys:Array Value}(C:∀(i:Nat)(u:DT)(y:Value),us[i]?=some u→xs[i]?=some y→VT u y)(D:∀(i:Nat)(u:DT)(y:Value),l[i]?=some u→ys[i]?=some y→VT u y)
  (F : us.length = xs.size) (G : l.length = ys.size) (d : Nat) (w : World) : ∀ (fs : List Field) {b : Bool}, (∀ f ∈ fs, (f.name == "_") = false) → k8 tab us l (fs.map fun f => (f.offset, f.type)) = some b →
   (Op.eqFields (d+1) xs ys fs).run P w = .ok b w
 |[],b,m,e=>by cases e;simp[Op.eqFields]
 |f::fs,b,m,e=>by
  simp only[WT,k8]at e;split at e
  case h_2=>cases e
  rename_i ti a c n o hv;split at e
  case isFalse=>cases e
  rename_i j;simp only[WA,WD]at e;obtain⟨q,p,s,H,rfl⟩:=e;have k:=Tab.ok ok n;have r:xs[f.offset]?=some a:=by
   have t:f.offset<us.length:=by
    rcases WI f.offset us.length with g|g
    ·exact g
    ·rw[WF g]at o;cases o
   have:=C _ _ _ o (Xg (by omega));rw[Xg (by omega),this.1]
  have v:ys[f.offset]?=some c:=by
   have t:f.offset<l.length:=by
    rcases WI f.offset l.length with g|g
    ·exact g
    ·rw[WF g]at hv;cases hv
   have:=D _ _ _ hv (Xg (by omega));rw[Xg (by omega),this.1]
  have hs:=mC k w;have I:ti.sh ≠ .other:=by intro h;rw[h]at p;simp[JY]at p
  have x:=Mz k I w;rw[j.2]at x;have z:(part f.type xs f.offset).run P w = .ok a w:=by simp[part,hs,x,r,j.1]
  have A:(part f.type ys f.offset).run P w = .ok c w:=by simp[part,hs,x,v,j.1]
  have B : f.name ≠ "_" := by simpa using m f (by simp)
  have J:=CZ ok C D F G d w fs (fun g K=>m g (by simp[K])) H;simp only[Op.eqFields,Wz B,Sem.run_bind,z,A,Rc k p d w,Result.andThen_ok];cases q
  ·simp
  ·simpa using J
end
theorem Holds.getN {w:World}:∀(st:List (Nat×Nat)){t n:DT},Holds w t→getN t st=some n→Holds w n
 |[],t,n,h,a=>by cases a;exact h
 |(i,c)::st,t,n,h,a=>by
  cases t with
  |v x=>simp[Am.getN]at a
  |any=>simp[Am.getN]at a
  |s k d z rows =>
   simp only[Am.getN,WA]at a;obtain⟨u,⟨row,hi,b⟩,a⟩:=a;cases h with
   |e=>simp at hi
   |s _ _ _ _ h hsp g j f hb hcap hz hv hh=>exact Holds.getN st (hh i row c u hi b) a
theorem OwnT.getN {w:World}:∀(st:List (Nat×Nat)){t n:DT},OwnT w t→getN t st=some n→OwnT w n
 |[],t,n,h,a=>by cases a;exact h
 |(i,c)::st,t,n,h,a=>by
  cases t with
  |v x=>simp[Am.getN]at a
  |any=>simp[Am.getN]at a
  |s k d z rows =>
   simp only[Am.getN,WA]at a;obtain⟨u,⟨row,hi,b⟩,a⟩:=a;cases h with
   |nil=>simp at hi
   |s _ _ _ h hsp f g lo e hb hcap hroom hf hh=>exact OwnT.getN st (hh i row c u hi b) a
theorem xF:∀(st:List (Nat×Nat)){t n:DT},getN t st=some n→∀b∈bl n,b∈bl t
 |[],t,n,e=>by cases e;exact fun b hb=>hb
 |(i,c)::st,t,n,e=>by
  cases t with
  |v x=>simp[getN]at e
  |any=>simp[getN]at e
  |s k d z rows =>simp only[getN,WA]at e;obtain⟨u,⟨row,hi,a⟩,e⟩:=e;exact fun b hb=>lZ hi a (xF st e b hb)
theorem ux {b:Nat}{c:Array Value}{e:TypeId}{f:Nat×Nat}(h:w.heap[b]?=some (.cells c e f))(o:Nat):w.cell? ⟨b,o,none⟩=c[o]?:=by simp[World.cell?,h]
section
variable  {δ β : Type}
def boxRange (D:St δ β)(h o n:Nat):Option (List (T δ)):=
 match D[h]? with
 |some (.box _ ts)=>if o+n≤ts.length then some ((ts.drop o).take n)else none
 |_=>none
def rowRange (D:St δ β)(h c:Nat)(st:List (Nat×Nat))(i o n:Nat):Option (List (T δ)):=
 match aw D h c with
 |some t=>if t.isOwn then
   match getN t st with
   |some (.s _ _ _ rows)=>(rows[i]?).bind fun row=>if o+n≤row.length then some ((row.drop o).take n)else none
   |_=>none
  else none
 |none=>none
end
theorem cj {c:Nat}{t:DT}(e:aw D h c=some t):∃s,D[h]?=some s∧s∈D∧t∈an s∧t∈rootsO s∧(t.isOwn=true→∀b∈bl t,b∈ownBl s):=by
 unfold aw at e;simp only[WA]at e;obtain⟨cs,⟨s,hs,hc⟩,ht⟩:=e;refine⟨s,hs,WC hs,?_⟩;have a:=WC ht;cases s with
 |one u=>cases hc;exact⟨a,a,fun d b hb=>by simp at a;subst a;simp[ownBl,ownR,d,hb]⟩
 |agg ts=>cases hc;exact⟨a,a,fun d b hb=>by simp only[ownBl,WP];exact⟨t,a,by simp[ownR,d,hb]⟩⟩
 |box f ts=>cases hc;exact⟨a,a,fun d b hb=>by simp only[ownBl,WZ,WP];exact .inr ⟨t,a,by simp[ownR,d,hb]⟩⟩
 |_=>cases hc
structure Cells (w:World)(b o:Nat)(cs:List DT):Prop where
 lies:∃c e f,w.heap[b]?=some (.cells c e f)∧∀(j:Nat)(t:DT),cs[j]?=some t→∃y,c[o+j]?=some y∧VT t y
 holds:∀t∈cs,Holds w t
theorem Inv.boxRange (I:Inv cx D P tm w){o n:Nat}(e:boxRange D h o n=some cs):
  ∃b ts,D[h]?=some (.box b ts)∧cs.length=n∧Cells w b.1 (b.2+o) cs∧(∀j,j<n→cs[j]?=ts[o+j]?)∧o+n≤ts.length:=by
 unfold Am.boxRange at e;split at e
 ·rename_i b ts hd;split at e
  ·rename_i l;cases e;have i:=I.mem _ (WC hd);obtain⟨c,e,f,hb,hv⟩:=i.2.2.1;have k:∀j,j<n→((ts.drop o).take n)[j]?=ts[o+j]?:=by intro j a;rw[XJ,Wz a,Xx]
   refine⟨b,ts,hd,by simp;omega,⟨⟨c,e,f,hb,fun j t a=>?_⟩,fun t m=>i.1 t ?_⟩,k,l⟩
   ·have d:j<n:=by
     rcases WI j n with g|g
     ·exact g
     ·rw[XJ,WM (by omega)]at a;cases a
    rw[k j d]at a;have:=hv _ t a;rw[←XZ]at this;exact this
   ·exact XM (Yb m)
  ·cases e
 ·cases e
theorem Inv.rowRange (I:Inv cx D P tm w){c:Nat}{o n:Nat}(e:rowRange D h c st i o n=some cs):
  ∃t k d z rows row,aw D h c=some t∧t.isOwn=true∧Holds w t∧OwnT w t∧getN t st=some (.s k d z rows)∧rows[i]?=some row∧cs.length=n∧o+n≤row.length ∧
   Cells w d.b (d.o+i*z+o) cs∧(∀j,j<n→cs[j]?=row[o+j]?):=by
 unfold Am.rowRange at e;split at e
 ·rename_i t v;split at e
  ·rename_i x;split at e
   ·rename_i k d z rows y;simp only[WA]at e;obtain⟨row,hi,e⟩:=e;split at e
    ·rename_i C;cases e;obtain⟨s,hs,l,A,m,_⟩:=cj v;have p:=I.mem s l;have hh:=Holds.getN st (p.1 t A) y;have B:∀j,j<n→((row.drop o).take n)[j]?=row[o+j]?:=by intro j a;rw[XJ,Wz a,Xx]
     refine⟨t,k,d,z,rows,row,v,x,p.1 t A,p.2.1 t m x,y,hi,by simp;omega,C,?_,B⟩;cases hh with
     |e=>simp at hi
     |s _ _ _ _ h hsp F G f hb hcap hz hv hh =>
      refine⟨⟨F,G,f,hb,fun j u a=>?_⟩,fun u H=>?_⟩
      ·have q:j<n:=by
        rcases WI j n with g|g
        ·exact g
        ·rw[XJ,WM (by omega)]at a;cases a
       rw[B j q]at a;have:=hv i row _ u hi a;rw[←XZ]at this;exact this
      ·have r:=XM (Yb H);obtain⟨j,a⟩:=WL r;exact hh i row j u hi a
    ·cases e
   ·cases e
  ·cases e
 ·cases e
theorem Cells.load {P:Program}{t:TypeId}{ti:TI}(h:nu P t=some ti)(q:ti.sh ≠ .other){b o:Nat}(C:Cells w b o cs)(r:cs.length=ti.size)(m:ti.sh.agg=false→cs.length=1):
  ∃y,(Instr.loadAt t (.pointer (some ⟨b,o,none⟩))).run P w = .ok y w ∧
   (if ti.sh.agg then ∃ys:Array Value,y = .agg ys∧VCells cs ys.toList else ∃u,cs=[u]∧VT u y):=by
 obtain⟨c,e,f,hb,hv⟩:=C.lies;by_cases n:ti.sh.agg=true
 ·have hc:∀j,j<cs.length→∃y,c[o+j]?=some y∧∀u,cs[j]?=some u→VT u y:=by intro j d;obtain⟨y,m,s⟩:=hv j cs[j] (WE d);exact⟨y,m,fun u k=>by rw[WE d]at k;cases k;exact s⟩
  let f':Nat→Value:=fun j=>(c[o+j]?).getD undef
  have hf:∀j,j<ti.size→w.cell? (Addr.add ⟨b,o,none⟩ j)=some (f' j):=by
   intro j d;obtain⟨y,a,_⟩:=hc j (by omega);have:Addr.add ⟨b,o,none⟩ j=⟨b,o+j,none⟩:=by unfold Addr.add;split<;>simp_all
   rw[this,ux hb];simp[f',a]
  refine⟨.agg ((List.range ti.size).map f').toArray,?_,?_⟩
  rotate_left
  ·rw[Wz n];refine⟨_,rfl,by simpa using r,fun j u y d a=>?_⟩;simp only[WQ,WD]at a;obtain⟨x,l,rfl⟩:=a;have p:j<cs.length:=by
    rcases WI j cs.length with g|g
    ·exact g
    ·rw[WF g]at d;cases d
   rw[XS (by omega)]at l;cases l;obtain⟨y,a,k⟩:=hc j p;simp only[f',a,YA];exact k u d
  ·have:=run_loadCells (P:=P) w ⟨b,o,none⟩ ti.size f' hf;simp[Instr.loadAt,loadVar,Instr.sureAddr,Mz h q,n,mC h,this]
 ·have i:ti.sh.agg=false:=by simpa using n
  have v:=m i;obtain⟨u,rfl⟩:∃u,cs=[u]:=List.length_eq_one_iff.1 v;obtain⟨y,a,k⟩:=hv 0 u rfl;refine⟨y,?_,?_⟩
  ·have:w.cell? ⟨b,o,none⟩=some y:=by rw[ux hb];simpa using a
   simp[Instr.loadAt,loadVar,Instr.sureAddr,Mz h q,i,run_load,this]
  ·rw[WM (by simp[i])];exact⟨u,rfl,k⟩
section
section
variable  {δ β : Type}
def kD (D:St δ β)(ti:TI):Sl δ β→Option (Sl δ β)
 | .pb h o=>(boxRange D h o ti.size).bind fun cs =>
  if ti.sh.agg then some (.agg (cs.mapIdx fun j u=>u.kd (.lent h (o+j) true)))else
  match cs with
  |[.s .own _ _ rows]=>some (.al h o [] 0 rows.length)
  |[u]=>some (.one u)
  |_=>none
 | .pe h c st i o=>(rowRange D h c st i o ti.size).bind fun cs =>
  if ti.sh.agg then some (.agg (cs.map (T.view (.lent h c false))))else
  match cs with
  |[.s .own _ _ rows]=>some (.al h c (st++[(i,o)]) 0 rows.length)
  |[u]=>some (.one (u.view (.lent h c false)))
  |_=>none
 | .im k _ ts o =>
  if o+ti.size≤ts.length then
   if ti.sh.agg then some (.agg (((ts.drop o).take ti.size).map (T.view k.unr)))else
   match(ts.drop o).take ti.size with
   |[u]=>some (.one (u.view k.unr))
   |_=>none
  else none
 |_=>none
end
theorem uv {t:DT}:VT (t.view k) y↔VT t y:=by cases t<;>exact .rfl
theorem nw {t:DT}(h:Holds w t):Holds w (t.view k):=by
 cases t with
 |v x=>exact h
 |any=>exact h
 |s k' d z r=>exact vv h
theorem TP (k:Kd)(t:DT):bl (t.view k)=bl t:=by
 cases t with
 |v x=>rfl
 |any=>rfl
 |s k' d z r=>simp only[T.view,cS]
theorem uh (a:k ≠ .own)(t:DT):(t.view k).isOwn=false:=by
 cases t with
 |v x=>rfl
 |any=>rfl
 |s k' d z r=>cases k<;>simp_all[T.view,T.isOwn]
theorem F2 {t:DT}(h:∀x∈bl t,cx.far x):bQ cx D (t.view .far):=by
 cases t with
 |v x=>trivial
 |any=>trivial
 |s k' d z r=>exact fun x a=>h x (by simp only[cS]at a ⊢;exact a)
theorem vx {b c:Nat}{a t:DT}(hc:aw D b c=some a)(f:a.isOwn=true)(h:∀x∈bl t,x∈bl a):bQ cx D (t.view (.lent b c false)):=by
 cases t with
 |v x=>trivial
 |any=>trivial
 |s k' d z r=>exact⟨a,hc,f,fun x e=>h x (by simp only[cS]at e ⊢;exact e),fun h=>by cases h⟩
theorem MD {b:Nat}{ts:List DT}(h:qk cx D k b ts){t:DT}(a:t∈ts):bQ cx D (t.view k.unr):=by
 cases k with
 |own=>exact h.elim
 |far=>exact F2 (h.2 t a)
 |lent g c i =>obtain⟨j,d,e,l,f⟩:=h;exact vx d e (f t a)
theorem yP {ts:List DT}{cs:List Value}(f:Nat→DT→DT)(hf:∀i t y,VT t y→VT (f i t) y)(h:VCells ts cs):VCells (ts.mapIdx f) cs:=by refine⟨by simpa using h.1,fun i t y hi a=>?_⟩;rw[Yi,WD]at hi;obtain⟨t',hi,rfl⟩:=hi;exact hf _ _ _ (h.2 i t' y hi a)
theorem BS {γ:Type}(f:α→γ)(l:List α):l.mapIdx (fun _ x=>f x)=l.map f:=by apply XT;intro i;simp
theorem Tells.agg {ts:List DT}{ys:Array Value}(hv:VCells ts ys.toList)(hh:∀t∈ts,Holds w t)(d:∀t∈ts,bQ cx D t)(b:∀t∈ts,t.isOwn=false):
  Tells cx D w (.agg ts) (.agg ys):=
 ⟨⟨ys,rfl,hv⟩,⟨hh,(fun t a c=>by rw[b t a]at c;cases c),trivial⟩,d,by simp only[ownBl,WY];exact fun t a=>fK (b t a)⟩
theorem Tells.one {t:DT}(hv:VT t y)(hh:Holds w t)(d:bQ cx D t)(b:t.isOwn=false):Tells cx D w (.one t) y :=
 ⟨hv,⟨fun u a=>by simp[an]at a;subst a;exact hh,(fun u a c=>by simp[rootsO]at a;subst a;rw[b]at c;cases c),trivial⟩,
  fun u a=>by simp[an]at a;subst a;exact d,fK b⟩
theorem H6:∀(st:List (Nat×Nat)){t:DT}{k:Kd}{d:Dec}{z:Nat}{rows:List (List DT)}{i c:Nat}{row:List DT}{u:DT},
  getN t st=some (.s k d z rows)→rows[i]?=some row→row[c]?=some u→getN t (st++[(i,c)])=some u
 |[],t,k,d,z,rows,i,c,row,u,h,hi,a=>by cases h;simp[getN,hi,a]
 |(e,f)::st,t,k,d,z,rows,i,c,row,u,h,hi,a=>by
  cases t with
  |v x=>simp[getN]at h
  |any=>simp[getN]at h
  |s k' g j b =>simp only[getN,YY,WA]at h ⊢;obtain⟨v,hv,h⟩:=h;exact⟨v,hv,H6 st h hi a⟩
variable  {P : Program}{tab : Tab}
theorem Tells.load {Pd:List (DT×Value)}(I:Inv cx D Pd tm w){t:TypeId}{ti:TI}(h:nu P t=some ti)(J:ti.sh ≠ .other){p s:DSl}{yp:Value}(O:Tells cx D w p yp)(e:kD D ti p=some s):∃y,(Instr.loadAt t yp).run P w = .ok y w∧Tells cx D w s y:=by
 unfold kD at e;split at e
 ·rename_i K o;obtain⟨b,ts,hb,M⟩:=O.val;simp only[WA]at e;obtain⟨cs,hr,e⟩:=e;obtain⟨b',ts',S,a,A,R,U⟩:=I.boxRange hr;rw[hb]at S;cases S;have l:∀(j:Nat)(u:DT),cs[j]?=some u→bQ cx D (u.kd (.lent K (o+j) true)):=by
   intro j u hj;have B:j<ti.size:=by
    rcases WI j cs.length with g|g
    ·omega
    ·rw[WF g]at hj;cases hj
   rw[R j B]at hj;have hk:=I.kind _ (WC hb);have hc:aw D K (o+j)=some u:=by simp[aw,hb,bh,hj]
   have V:bQ cx D u:=hk u (WC hj);cases u with
   |v x=>trivial
   |any=>trivial
   |s k d z r =>
    cases k with
    |own=>exact⟨_,hc,rfl,fun x hx=>(by simp only[cS]at hx ⊢;exact hx),fun _=>⟨_,_,rfl,rfl⟩⟩
    |far=>exact V
    |lent h c fl=>exact V
  split at e
  ·rename_i F;cases e;obtain⟨y,G,n⟩:=Cells.load h J A a (fun hf=>by rw[F]at hf;cases hf);rw[Wz F]at n;obtain⟨ys,rfl,n⟩:=n;refine⟨_,by rw[M];exact G,.agg (yP _ (fun _ _ _=>O6.2) n) ?_ ?_ ?_⟩
   ·intro t m;simp only[XK]at m;obtain⟨i,hi,rfl⟩:=m;exact J7 (A.holds _ (XW hi))
   ·intro t m;simp only[XK]at m;obtain⟨i,hi,rfl⟩:=m;exact l i _ (WE hi)
   ·intro t m;simp only[XK]at m;obtain⟨i,hi,rfl⟩:=m;exact th _ _ _ _
  ·rename_i F;have Q:cs.length=1:=by split at e<;>first|rfl|cases e
   obtain⟨y,G,n⟩:=Cells.load h J A a (fun _=>Q);rw[WM F]at n;obtain⟨u,rfl,n⟩:=n;refine⟨y,by rw[M];exact G,?_⟩;have hu:ts[o]?=some u:=by have:=R 0 (by simp at a;omega);simpa using this.symm
   have hm:=I.mem _ (WC hb);split at e
   ·rename_i d z rows q;cases q;cases e;refine⟨⟨d,z,rows.length,_,⟨.s .own d z rows,by simp[aw,hb,bh,hu],rfl,.own,rows,rfl,rfl⟩,by omega,n,?_,fun _=>Dec.addr_none (hm.2.1 (.s .own d z rows) (WC hu) rfl).sp⟩,
     ⟨fun t m=>by simp[an]at m,fun t m=>by simp[rootsO]at m,trivial⟩,fun t m=>by simp[an]at m,rfl⟩
    intro hc;have J:=hm.2.1 (.s .own d z rows) (WC hu) rfl;have hs:=J.sp;cases J with
    |nil d z h W Z0=>omega
    |s d z rows K=>simp[Dec.addr,K,hs]
   ·rename_i X q;cases q;cases e;have Z1:u.isOwn=false:=by
     cases u with
     |v x=>rfl
     |any=>rfl
     |s k d z r =>
      cases k with
      |own=>exact absurd rfl (X d z r)
      |_=>rfl
    exact .one n (A.holds _ (by simp)) (I.kind _ (WC hb) u (WC hu)) Z1
   ·cases e
 ·rename_i K c st i o;obtain⟨d',z',n',hn,Z6,M⟩:=O.val;simp only[WA]at e;obtain⟨cs,hr,e⟩:=e;obtain⟨t₀,k,d,z,rows,row,hc,Y,Z7,Z2,L,H,a,U,A,R⟩:=I.rowRange hr;have Z3:d=d'∧z=z':=by obtain⟨t1,G,n,k1,C,h3,h4⟩:=hn;rw[hc]at G;cases G;rw[L]at h3;cases h3;exact⟨rfl,rfl⟩
  obtain⟨rfl,rfl⟩:=Z3;have Z4:∀(j:Nat)(u:DT),cs[j]?=some u→∀x∈bl u,x∈bl t₀:=by
   intro j u hj x hx;have B:j<ti.size:=by
    rcases WI j cs.length with g|g
    ·omega
    ·rw[WF g]at hj;cases hj
   rw[R j B]at hj;exact xF st L x (lZ H hj hx)
  have N:∀(j:Nat)(u:DT),cs[j]?=some u→OwnT w u:=by
   intro j u hj;have B:j<ti.size:=by
    rcases WI j cs.length with g|g
    ·omega
    ·rw[WF g]at hj;cases hj
   rw[R j B]at hj;have:=OwnT.getN st Z2 L;cases this with
   |nil=>simp at H
   |s _ _ _ h hsp c' e' lo Z8 hb hcap hroom hf hh=>exact hh i row _ u H hj
  have l:∀(j:Nat)(u:DT),cs[j]?=some u→bQ cx D (u.view (.lent K c false)):=fun j u hj=>vx hc Y (Z4 j u hj)
  split at e
  ·rename_i F;cases e;obtain⟨y,G,n⟩:=Cells.load h J A a (fun hf=>by rw[F]at hf;cases hf);rw[Wz F]at n;obtain⟨ys,rfl,n⟩:=n;refine⟨_,by rw[M];exact G,.agg ?_ ?_ ?_ ?_⟩
   ·have:=yP (fun _ u=>u.view (.lent K c false)) (fun _ _ _=>uv.2) n
    rwa [BS]at this
   ·intro t m;obtain⟨u,hu,rfl⟩:=WU.1 m;exact nw (A.holds _ hu)
   ·intro t m;obtain⟨u,hu,rfl⟩:=WU.1 m;obtain⟨j,hj⟩:=WL hu;exact l j u hj
   ·intro t m;obtain⟨u,hu,rfl⟩:=WU.1 m;exact uh (by simp) _
  ·rename_i F;have Q:cs.length=1:=by split at e<;>first|rfl|cases e
   obtain⟨y,G,n⟩:=Cells.load h J A a (fun _=>Q);rw[WM F]at n;obtain⟨u,rfl,n⟩:=n;refine⟨y,by rw[M];exact G,?_⟩;have hu:row[o]?=some u:=by have:=R 0 (by simp at a;omega);simpa using this.symm
   split at e
   ·rename_i d1 z1 C q;cases q;cases e;refine⟨⟨d1,z1,C.length,_,⟨t₀,hc,Y,.own,C,H6 st L H hu,rfl⟩,by omega,n,?_,fun _=>Dec.addr_none (N 0 _ rfl).sp⟩,
     ⟨fun t m=>by simp[an]at m,fun t m=>by simp[rootsO]at m,trivial⟩,fun t m=>by simp[an]at m,rfl⟩
    intro hcap;have J:=N 0 _ rfl;have hs:=J.sp;cases J with
    |nil d z h W Z0=>omega
    |s d z rows K=>simp[Dec.addr,K,hs]
   ·rename_i X q;cases q;cases e;exact .one (uv.2 n) (nw (A.holds _ (by simp))) (l 0 _ rfl) (uh (by simp) _)
   ·cases e
 ·rename_i k b ts o;have M:yp = .pointer (some ⟨b.1,b.2+o,none⟩):=O.val;split at e
  ·rename_i U;have Z:k.unr ≠ .own:=by
    intro hk;cases k with
    |own=>exact O.kind
    |_=>cases hk
   have A:Cells w b.1 (b.2+o) ((ts.drop o).take ti.size):=by
    obtain⟨c',e',f,hb,hv⟩:=O.mem.2.2;refine⟨⟨c',e',f,hb,fun j t hj=>?_⟩,fun t m=>O.mem.1 t (XM (Yb m))⟩;have B:j<ti.size:=by
     rcases WI j ti.size with g|g
     ·exact g
     ·rw[XJ,WM (by omega)]at hj;cases hj
    rw[XJ,Wz B,Xx]at hj;have:=hv _ t hj;rw[←XZ]at this;exact this
   have a:((ts.drop o).take ti.size).length=ti.size:=by simp;omega
   have l:∀u∈(ts.drop o).take ti.size,bQ cx D (u.view k.unr):=fun u hu =>MD O.kind (XM (Yb hu))
   split at e
   ·rename_i F;cases e;obtain⟨y,G,n⟩:=Cells.load h J A a (fun hf=>by rw[F]at hf;cases hf);rw[Wz F]at n;obtain⟨ys,rfl,n⟩:=n;refine⟨_,by rw[M];exact G,.agg ?_ ?_ ?_ ?_⟩
    ·have:=yP (fun _ u=>u.view k.unr) (fun _ _ _=>uv.2) n
     rwa [BS]at this
    ·intro t m;obtain⟨u,hu,rfl⟩:=WU.1 m;exact nw (A.holds _ hu)
    ·intro t m;obtain⟨u,hu,rfl⟩:=WU.1 m;exact l u hu
    ·intro t m;obtain⟨u,hu,rfl⟩:=WU.1 m;exact uh Z _
   ·rename_i F;split at e
    ·rename_i u q;cases e;rw[q]at A a l;obtain⟨y,G,n⟩:=Cells.load h J A a (fun _=>rfl);rw[WM F]at n;obtain⟨u',Z5,n⟩:=n;cases Z5;exact⟨y,by rw[M];exact G,.one (uv.2 n) (nw (A.holds _ (by simp))) (l _ (by simp)) (uh Z _)⟩
    ·cases e
  ·cases e
 ·cases e
end
section
structure Mk (δ β:Type) where
 nil:δ
 win:δ→Nat→Nat→δ
 at_:δ→Nat→Nat→β
 ptr:β→δ
def mkD:Mk Dec (Nat×Nat) where
 nil:=nilD
 win d l z:={ d with o:=if d.cap=l then d.o else d.o+l*z,cap:=d.cap-l }
 at_ d i z:=(d.b,d.o+i*z)
 ptr b:=⟨b.1,b.2,1,false,none⟩
def mkU:Mk Unit Unit where
 nil:=()
 win _ _ _:=()
 at_ _ _ _:=()
 ptr _:=()
section
variable  {δ β : Type}
def intOfSl:Sl δ β→Option Int| .one (.v (.int _ n))=>some n|_=>none
def qY (D:St δ β)(h c:Nat)(st:List (Nat×Nat)):Option Nat :=
 match db D h c st with
 |some (.s _ _ z _)=>some z
 |_=>none
def mB (M:Mk δ β)(D:St δ β)(tab:Tab)(t:Nat)(x:Sl δ β)(lo hi:Option Int):Option (Sl δ β):=
 match x with
 | .one (.v (.string s))=>
  if((tab.ti t).map (·.sh))=some .str then
   if 0≤lo.getD 0∧lo.getD 0≤hi.getD s.size∧hi.getD s.size≤(s.size:Int)then some (.one (.v (.string (s.extract (lo.getD 0).toNat (hi.getD s.size).toNat))))else none
  else none
 | .one (.s k d z rows)=>
  if k = .own then none else
  match tab.ti t with
  |some ⟨_,_,_,.slice e⟩=>
   if((tab.ti e).map (·.size))=some z then
    if 0≤lo.getD 0∧lo.getD 0≤hi.getD rows.length∧hi.getD rows.length≤(rows.length:Int)then
     some (.one (.s k.unr (M.win d (lo.getD 0).toNat z) z ((rows.drop (lo.getD 0).toNat).take ((hi.getD rows.length).toNat-(lo.getD 0).toNat))))else none
   else none
  |_=>none
 | .al h c st l len =>
  match tab.ti t with
  |some ⟨_,_,_,.slice e⟩=>
   if((tab.ti e).map (·.size))=qY D h c st then
    if 0≤lo.getD 0∧lo.getD 0≤hi.getD len∧hi.getD len≤(len:Int)then
     some (.al h c st (l+(lo.getD 0).toNat) ((hi.getD len).toNat-(lo.getD 0).toNat))else none
   else none
  |_=>none
 |_=>none
end
abbrev bV (lo:Option (IntKind×Int)):Option Value:=lo.map fun p=>Value.int p.1 p.2
theorem zB {P:Program}(w:World)(b:Bool)(len cap:Nat)(lo hi:Option (IntKind×Int))(hc:len≤cap)(h:0≤(lo.map Prod.snd).getD 0∧(lo.map Prod.snd).getD 0≤(hi.map Prod.snd).getD (len:Int)∧(hi.map Prod.snd).getD (len:Int)≤(cap:Int)):
  (Instr.sliceBounds b len cap (bV lo) (bV hi) none).run P w = .ok (((lo.map Prod.snd).getD 0).toNat,((hi.map Prod.snd).getD (len:Int)).toNat,cap) w:=by
 obtain⟨d,a,c⟩:=h;cases lo with
 |none =>
  cases hi with
  |none=>simp[Instr.sliceBounds]
  |some p =>simp at a c;simp[Instr.sliceBounds,run_sliceBound w p.1 p.2 cap _ a c]
 |some q =>
  cases hi with
  |none =>simp at d a c;simp[Instr.sliceBounds,run_sliceBound w q.1 q.2 len _ d a]
  |some p =>simp at d a c;simp[Instr.sliceBounds,run_sliceBound w p.1 p.2 cap _ (by omega) c,run_sliceBound w q.1 q.2 p.2.toNat _ d (by omega)]
theorem Ue (d:Dec)(z l:Nat)(hs:d.sp=none∨l=0):
  (if d.cap=l then d.addr else d.addr.map (·.add (l*z)))=(mkD.win d l z).addr:=by
 rcases hs with hs|hs
 ·rw[Dec.addr_none hs,Dec.addr_none (d:=mkD.win d l z) (by simpa[mkD]using hs)];simp only[mkD];by_cases a:d.nil=true
  ·simp[a]
  ·simp only[a];by_cases hc:d.cap=l
   ·simp[hc]
   ·simp only[hc,Xs,W2,WB,Xd];unfold Addr.add;split
    ·rename_i b;simp[b]
    ·rfl
 ·subst hs;have b:(mkD.win d 0 z).addr=d.addr:=by unfold Dec.addr mkD;simp
  rw[b];cases d.addr<;>simp[Addr.add]
theorem TH {tab:Tab}{s:Sh}(h:((tab.ti t).map (·.sh))=some s):∃ti,tab.ti t=some ti∧ti.sh=s:=by
 cases e:tab.ti t with
 |none=>rw[e]at h;cases h
 |some ti=>rw[e]at h;cases h;exact⟨ti,rfl,rfl⟩
theorem wx {tab:Tab}{n:Nat}(h:((tab.ti t).map (·.size))=some n):∃ti,tab.ti t=some ti∧ti.size=n:=by
 cases e:tab.ti t with
 |none=>rw[e]at h;cases h
 |some ti=>rw[e]at h;cases h;exact⟨ti,rfl,rfl⟩
theorem Holds.cap {rows:List (List DT)}(h:Holds w (.s k d z rows)):rows.length≤d.cap:=by
 cases h with
 |e=>simp
 |s _ _ _ _ h hsp c e f hb hcap hz hv hh=>exact hcap
theorem Holds.win {rows:List (List DT)}(h:Holds w (.s k d z rows))(l n:Nat)(r:l+n≤rows.length):
  Holds w (.s k (mkD.win d l z) z ((rows.drop l).take n)):=by
 cases h with
 |e=>simp;exact .e _ _ _
 |s _ _ _ _ h hsp c e f hb hcap hz hv hh =>
  have a:∀(i:Nat)(row:List DT),((rows.drop l).take n)[i]?=some row→rows[l+i]?=some row∧i<n:=by
   intro i row hi;rw[XJ]at hi;split at hi
   ·rw[Xx]at hi;exact⟨hi, ‹_›⟩
   ·cases hi
  refine .s _ _ _ _ (by simpa[mkD]using h) (by simpa[mkD]using hsp) c e f (by simpa[mkD]using hb) (by simp[mkD];omega) ?_ ?_ ?_
  ·intro i row hi;exact hz _ row (a i row hi).1
  ·intro i row j t hi b;obtain⟨g,o⟩:=a i row hi;obtain⟨y,p,q⟩:=hv _ row j t g b;refine⟨y,?_,q⟩;have m:¬d.cap=l:=by omega
   simp only[mkD,m,Xs];rw[←p];congr 1;rw[X0];omega
  ·intro i row j t hi b;exact hh _ row j t (a i row hi).1 b
theorem Kh {rows:List (List DT)}{l n:Nat}{x:Nat}(h:x∈bl (.s k (mkD.win d l z) z ((rows.drop l).take n))):x∈bl (.s k d z rows):=by
 rw[cS]at h ⊢;simp only[W5,WP]at h ⊢;rcases h with h|⟨row,a,h⟩
 ·exact .inl h
 ·exact .inr ⟨row,XM (Yb a),h⟩
variable  {P : Program}{tab : Tab}
theorem Inv.node {j:List (DT×Value)}(I:Inv cx D j tm w){c:Nat}{n:Nat}(l:fi D h c st d z n):
  ∃t k rows,aw D h c=some t∧t.isOwn=true∧getN t st=some (.s k d z rows)∧rows.length=n∧Holds w (.s k d z rows)∧OwnT w (.s k d z rows):=by
 obtain⟨t,f,g,k,rows,a,m⟩:=l;obtain⟨s,hs,b,o,e,_⟩:=cj f;have i:=I.mem s b;exact⟨t,k,rows,f,g,a,m,Holds.getN st (i.1 t o) a,OwnT.getN st (i.2.1 t e g) a⟩
theorem Tells.slice (ok:bz P tab)(I:Inv cx D V tm w){t:TypeId}{x s:DSl}{B:Value}(i:Tells cx D w x B)(lo hi:Option (IntKind×Int))(e:mB mkD D tab t x (lo.map Prod.snd) (hi.map Prod.snd)=some s):
  ∃y,(Instr.sliceAt t B (bV lo) (bV hi) none).run P w = .ok y w∧Tells cx D w s y:=by
 unfold mB at e;split at e
 ·rename_i str;split at e
  ·rename_i hs;obtain⟨ti,f,C⟩:=TH hs;have g:=yF (Tab.ok ok f) C;split at e
   ·rename_i hb;cases e;have r:B = .string str:=i.val.1;subst r;refine⟨_,?_,.one_v _ rfl⟩;rw[run_sliceAt_string w t _ _ _ _ g];simp[Instr.slice,run_underlying g,zB (P:=P) w false str.size str.size lo hi (Xj _) hb]
   ·cases e
  ·cases e
 ·rename_i k d z rows;split at e
  ·cases e
  rename_i F;split at e
  ·rename_i sz G W H f;have g:=gM (Tab.ok ok f) rfl;have b:P.elem t=H:=by simp[Program.elem,g]
   split at e
   ·rename_i hz;obtain⟨X,j,m⟩:=wx hz;split at e
    ·rename_i hb;cases e;have J:=i.mem.1 (.s k d z rows) (by simp[an]);have hcap:=J.cap;have r:B = .slice d.addr rows.length d.cap:=i.val;have Y:(T.s k d z rows).isOwn=false:=by cases k<;>first|rfl|exact absurd rfl F
     have o:=zB (P:=P) w true rows.length d.cap lo hi hcap ⟨hb.1,hb.2.1,Int.le_trans hb.2.2 (by omega)⟩;have p:=mC (Tab.ok ok j) w;obtain⟨Z,q,u⟩:=hb;refine⟨_,?_,.one (y := .slice (mkD.win d ((lo.map Prod.snd).getD 0).toNat z).addr
      ((rows.drop ((lo.map Prod.snd).getD 0).toNat).take (((hi.map Prod.snd).getD (rows.length:Int)).toNat-((lo.map Prod.snd).getD 0).toNat)).length (mkD.win d ((lo.map Prod.snd).getD 0).toNat z).cap) rfl (vv (J.win _ _ ?_)) ?_ ?_⟩
     ·rw[run_sliceAt_slice w t _ _ _ _ (by rw[b];exact g),r,run_slice_any w t _ _ _ (by rw[b];exact g),o];simp only[Result.andThen_ok,b,p,m];congr 1;unfold sliced;have:=Ue d z ((lo.map Prod.snd).getD 0).toNat (by
       by_cases S:rows=[]
       ·subst S;have K:=q;have L:=u;simp only[Zu]at K L;right;omega
       ·exact .inl (J.sp S))
      rw[this];congr 1;simp only[List.length_take,List.length_drop];omega
     ·omega
     ·have v:=i.kind (.s k d z rows) (by simp[an]);cases k with
      |own=>exact absurd rfl F
      |far=>exact fun x i=>v x (Kh i)
      |lent h' c fl =>obtain⟨t,q,u,M⟩:=v;exact⟨t,q,u,fun x i=>M.1 x (Kh i),fun h=>by cases h⟩
     ·cases k<;>first|rfl|exact absurd rfl F
    ·cases e
   ·cases e
  ·cases e
 ·rename_i h c st l len;split at e
  ·rename_i sz G W H f;have g:=gM (Tab.ok ok f) rfl;have b:P.elem t=H:=by simp[Program.elem,g]
   obtain⟨d,z,n,a,N,Z0,r,ha,O⟩:=i.val;have Q:qY D h c st=some z:=by obtain⟨t,q,u,k,rows,M,U⟩:=N;simp[qY,db,q,M]
   rw[Q]at e;split at e
   ·rename_i hz;obtain⟨X,j,m⟩:=wx hz;split at e
    ·rename_i hb;cases e;have p:=mC (Tab.ok ok j) w;have hcap:n≤d.cap:=by obtain⟨_,_,_,_,_,_,U,h5,_⟩:=I.node N;rw[←U];exact h5.cap
     have o:=zB (P:=P) w true len (d.cap-l) lo hi (by omega) ⟨hb.1,hb.2.1,Int.le_trans hb.2.2 (by omega)⟩;obtain⟨Z,q,u⟩:=hb;refine⟨_,?_,⟨⟨d,z,n,(if d.cap-l=((lo.map Prod.snd).getD 0).toNat then a else a.map (·.add (((lo.map Prod.snd).getD 0).toNat*z))),N,?_,rfl,?_,?_⟩,⟨fun t A=>by simp[an]at A,fun t A=>by simp[rootsO]at A,trivial⟩,fun t A=>by simp[an]at A,rfl⟩⟩
     ·rw[run_sliceAt_slice w t _ _ _ _ (by rw[b];exact g),r,run_slice_any w t _ _ _ (by rw[b];exact g),o];simp only[Result.andThen_ok,b,p,m,sliced];congr 2;omega
     ·omega
     ·intro hc;rw[WM (by omega),ha (by omega)];simp only[WB,Xd];unfold Addr.add;split
      ·rename_i Z1;simp only[Addr.mk.injEq,YF,true_and];rw[X0];omega
      ·simp only[Addr.mk.injEq,YF,true_and];rw[X0];omega
     ·intro Z2;have hl:l=0:=by omega
      have R:((lo.map Prod.snd).getD 0).toNat=0:=by omega
      rw[R,O hl];split
      ·rfl
      ·split<;>simp[Addr.add]
    ·cases e
   ·cases e
  ·cases e
 ·cases e
end
section
section
variable  {δ β : Type}
def jl (s:Zz)(i:Int):Int:=((s[i.toNat]?.map fun b=>(b.toNat:Int)).getD 0)
def ju (M:Mk δ β)(D:St δ β)(tab:Tab)(t:Nat)(x:Sl δ β)(i:Int):Option (Sl δ β):=
 match tab.ti t with
 |some ⟨_,_,_,.slice e⟩=>
  match x with
  | .one (.s k d z rows)=>
   if k = .own then none else
   if((tab.ti e).map (·.size))=some z then
    if 0≤i then(rows[i.toNat]?).map fun row=>.im k (M.at_ d i.toNat z) row 0 else none
   else none
  | .al h c st lo len =>
   if((tab.ti e).map (·.size))=qY D h c st then
    if 0≤i∧i<(len:Int)then some (.pe h c st (lo+i.toNat) 0)else none
   else none
  |_=>none
 |_=>none
def mp (tab:Tab)(t:Nat)(x:Sl δ β)(f:Nat):Option (Sl δ β):=
 match tab.ti t with
 |some ⟨_,_,_,.struct offs⟩=>
  (offs[f]?).bind fun o =>
  match x with
  | .pb h off=>some (.pb h (off+o))
  | .pe h c st i off=>some (.pe h c st i (off+o))
  | .im k b ts off=>some (.im k b ts (off+o))
  |_=>none
 |_=>none
def zr (tab:Tab)(t:Nat)(x:Sl δ β):Option Int :=
 match tab.ti t with
 |some ⟨_,_,_,.slice _⟩=>
  match x with
  | .one (.s k _ _ rows)=>if k = .own then none else some rows.length
  | .al _ _ _ _ len=>some len
  |_=>none
 |some ⟨_,_,_,.str⟩=>
  match x with
  | .one (.v (.string s))=>some s.size
  |_=>none
 |_=>none
def FG:Sl δ β→Bool| .pb _ _=>true| .pe _ _ _ _ _=>true| .im _ _ _ _=>true|_=>false
def jV (nil:δ)(D:St δ β):Option Operand→Option (Option Int)
 |none=>some none
 |some x=>match opd nil D x with
  |some (.one (.v (.int _ n)))=>some (some n)
  |_=>none
def EV (M:Mk δ β)(tab:Tab)(D:St δ β)(c:Call):Option (Sl δ β):=
 match c.callee,c.args.toList,c.argTypes.toList with
 | .builtin .len,[x],[t]=>(opd M.nil D x).bind fun s=>(zr tab t s).map fun n=>.one (.v (.int .i64 n))
 | .builtin .max,[x,y],_ =>
  match opd M.nil D x,opd M.nil D y with
  |some (.one (.v (.int k a))),some (.one (.v (.int _ b)))=>some (.one (.v (.int k (if b>a then b else a))))
  |_,_=>none
 | .builtin .min,[x,y],_ =>
  match opd M.nil D x,opd M.nil D y with
  |some (.one (.v (.int k a))),some (.one (.v (.int _ b)))=>some (.one (.v (.int k (if b<a then b else a))))
  |_,_=>none
 |_,_,_=>none
def cf (M:Mk δ β)(tab:Tab)(D:St δ β)(op:Op):Option (Sl δ β):=
 match op with
 | .move x=>opd M.nil D x
 | .assign x=>opd M.nil D x
 | .pick c a b =>
  match opd M.nil D c with
  |some (.one (.v (.bool true)))=>opd M.nil D a
  |some (.one (.v (.bool false)))=>opd M.nil D b
  |_=>none
 | .nilCheck x=>(opd M.nil D x).bind fun s=>if FG s then some s else none
 | .binOp op t x y _ =>
  match opd M.nil D x,opd M.nil D y with
  |some (.one (.v a)),some (.one (.v b))=>(AT tab op t a b).map fun z=>.one (.v z)
  |some (.agg us),some (.agg e)=>(eqS tab op t us e).map fun z=>.one (.v z)
  |_,_=>none
 | .unOp op _ x =>
  match opd M.nil D x with
  |some (.one (.v (.bool b)))=>(match op with| .not=>some (.one (.v (.bool !b)))|_=>none)
  |some (.one (.v (.int k n)))=>(match op with| .neg=>some (.one (.v (.int k (k.wrap (0-n)))))|_=>none)
  |_=>none
 | .convert d dst x =>
  match opd M.nil D x,tab.ti d,tab.ti dst with
  |some (.one (.v (.int _ n))),some _,some ⟨_,_,_,.int k⟩=>some (.one (.v (.int k (k.wrap n))))
  |_,_,_=>none
 | .load t x =>
  match opd M.nil D x,tab.ti t with
  |some p,some ti=>if ti.sh = .other then none else kD D ti p
  |_,_=>none
 | .fieldAddr t x f=>(opd M.nil D x).bind fun p=>mp tab t p f
 | .indexAddr t x i =>
  match opd M.nil D x,opd M.nil D i with
  |some p,some (.one (.v (.int _ n)))=>ju M D tab t p n
  |_,_=>none
 | .index t x i =>
  match opd M.nil D x,opd M.nil D i with
  |some (.one (.v (.string s))),some (.one (.v (.int _ n)))=>
   if((tab.ti t).map (·.sh))=some .str then
    if 0≤n∧n<(s.size:Int)then some (.one (.v (.int .u8 (jl s n))))else none
   else none
  |some (.clo (.arr offs) hs),some (.one (.v (.int _ n)))=>
   if 0≤n∧tab.ars.lookup t=some hs.length∧offs.length=hs.length then
    match hs[n.toNat]?,offs[n.toNat]? with
    |some h,some o=>some (.pb h o)
    |_,_=>none
   else none
  |_,_=>none
 | .slice t x lo hi none =>
  match opd M.nil D x,jV M.nil D lo,jV M.nil D hi with
  |some s,some l,some h=>mB M D tab t s l h
  |_,_,_=>none
 | .call c=>EV M tab D c
 |_=>none
end
variable  {P : Program}{tab : Tab}
theorem Tells.indexAddr (ok:bz P tab)(I:Inv cx D V tm w){t:TypeId}{x s:DSl}{K:Value}(H:Tells cx D w x K){k:IntKind}{i:Int}(e:ju mkD D tab t x i=some s):∃y,(Instr.indexAt t K (.int k i)).run P w = .ok y w∧Tells cx D w s y:=by
 unfold ju at e;split at e
 ·rename_i sz W ze X L;have M:=gM (Tab.ok ok L) rfl;have p:P.elem t=X:=by simp[Program.elem,M]
  split at e
  ·rename_i kd d z rows;split at e
   ·cases e
   rename_i Y;split at e
   ·rename_i hz;obtain⟨Z,q,r⟩:=wx hz;split at e
    ·rename_i hi;rw[WD]at e;obtain⟨row,l,rfl⟩:=e;have v:=mC (Tab.ok ok q) w;have F:K = .slice d.addr rows.length d.cap:=H.val;have hH:=H.mem.1 (.s kd d z rows) (by simp[an]);have Z0:i.toNat<rows.length:=by
      rcases WI i.toNat rows.length with g|g
      ·exact g
      ·rw[WF g]at l;cases l
     cases hH with
     |e=>simp at l
     |s _ _ _ _ h hsp c e f hb hcap Z1 hv hh =>
      rw[Dec.addr_none hsp,h]at F;simp only[W2,Xs]at F;refine⟨.pointer (some ⟨d.b,d.o+i.toNat*z,none⟩),?_,⟨rfl,⟨?_,?_,?_⟩,?_,rfl⟩⟩
      ·rw[F,run_indexAt_slice w t _ _ _ _ _ (by rw[p];exact M),Wz ⟨hi,by omega⟩,p,v];simp only[Result.andThen_ok,r];unfold Addr.add;split
       ·rename_i N;simp[N]
       ·rfl
      ·intro u m;obtain⟨j,A⟩:=WL m;exact hh _ row j u l A
      ·intro u m ho;simp[rootsO]at m
      ·exact⟨c,e,f,hb,fun j u A=>hv _ row j u l A⟩
      ·have B:=H.kind (.s kd d z rows) (by simp[an]);cases kd with
       |own=>exact absurd rfl Y
       |far=>exact⟨B d.b (mv h),fun u m x C=>by obtain⟨j,A⟩:=WL m;exact B x (lZ l A C)⟩
       |lent h' c' fl =>obtain⟨t,O,S,J,Z2⟩:=B;exact⟨t,O,S,J _ (mv h),fun u m x C=>by obtain⟨j,A⟩:=WL m;exact J x (lZ l A C)⟩
    ·cases e
   ·cases e
  ·rename_i h c st lo len;obtain⟨d,z,n,a,Q,Z3,F,ha,Z4⟩:=H.val;have R:qY D h c st=some z:=by obtain⟨t,O,S,k,rows,J,U⟩:=Q;simp[qY,db,O,J]
   rw[R]at e;split at e
   ·rename_i hz;obtain⟨Z,q,r⟩:=wx hz;split at e
    ·rename_i hi;cases e;have v:=mC (Tab.ok ok q) w;have hcap:n≤d.cap:=by obtain⟨_,_,_,_,_,_,U,h5,_⟩:=I.node Q;rw[←U];exact h5.cap
     rw[ha (by omega)]at F;refine⟨.pointer (some ⟨d.b,d.o+(lo+i.toNat)*z,none⟩),?_,⟨⟨d,z,n,Q,by omega,rfl⟩,⟨fun t G=>by simp[an]at G,fun t G=>by simp[rootsO]at G,trivial⟩,fun t G=>by simp[an]at G,rfl⟩⟩;rw[F,run_indexAt_slice w t _ _ _ _ _ (by rw[p];exact M),Wz ⟨hi.1,by omega⟩,p,v];simp only[Result.andThen_ok,r];unfold Addr.add;split
     ·rename_i N;rw[X0,N];rfl
     ·rw[X0,XZ]
    ·cases e
   ·cases e
  ·cases e
 ·cases e
end
section
variable  {P : Program}{tab : Tab}
theorem Tells.fieldAddr (ok:bz P tab){t:TypeId}{x s:DSl}{p:Value}(a:Tells cx D w x p){f:Nat}(e:mp tab t x f=some s):∃y,(Instr.fieldAt t p f).run P w = .ok y w∧Tells cx D w s y:=by
 unfold mp at e;split at e
 ·rename_i sz A F offs q;obtain⟨fs,B,c,r⟩:=Sx (Tab.ok ok q) rfl;simp only[WA]at e;obtain⟨o,v,e⟩:=e;rw[c,WQ,WD]at v;obtain⟨h,hfl,rfl⟩:=v;obtain⟨i,hi,u⟩:=r h (by have:=WC hfl;simpa using this);have g:∀(b off:Nat),(Instr.fieldAt t (.pointer (some ⟨b,off,none⟩)) f).run P w = .ok (.pointer (some ⟨b,off+h.offset,none⟩)) w:=by
   intro b off;have j:fs[f]?=some h:=by simpa using hfl
   have:Addr.add ⟨b,off,none⟩ h.offset=⟨b,off+h.offset,none⟩:=by unfold Addr.add;split<;>simp_all
   simp[Instr.fieldAt,run_underlying B,j,Instr.sureAddr,fieldPlace,sizeOf,typeInfo,hi,u,this]
  split at e
  ·cases e;obtain⟨b,ts,hb,l⟩:=a.val;exact⟨_,by rw[l];exact g _ _,⟨⟨b,ts,hb,by rw[XZ]⟩,a.mem,a.kind,rfl⟩⟩
  ·cases e;obtain⟨d,z,n,C,m,l⟩:=a.val;exact⟨_,by rw[l];exact g _ _,⟨⟨d,z,n,C,m,by rw[XZ]⟩,a.mem,a.kind,rfl⟩⟩
  ·rename_i k b ts off;cases e;have l:p = .pointer (some ⟨b.1,b.2+off,none⟩):=a.val;exact⟨_,by rw[l];exact g _ _,⟨by show _=_;rw[XZ],a.mem,a.kind,rfl⟩⟩
  ·cases e
 ·cases e
theorem Tells.len (ok:bz P tab){t:TypeId}{x:DSl}{i:Value}(h:Tells cx D w x i){n:Int}(e:zr tab t x=some n)(ty:TypeId):(Builtin.len_ #[t] ty #[i]).run P w = .ok (.int .i64 n) w:=by
 unfold zr at e;split at e
 ·rename_i sz j o k b;have f:=gM (Tab.ok ok b) rfl;have g:P.elem t=k:=by simp[Program.elem,f]
  split at e
  ·split at e
   ·cases e
   ·cases e;have c:=h.val;simp only[VS,VT]at c;rw[c,run_len_slice w t ty _ _ _ (by rw[g];exact f)];rfl
  ·cases e;obtain⟨d,z,n,a,p,l,c,q,m⟩:=h.val;rw[c,run_len_slice w t ty _ _ _ (by rw[g];exact f)];rfl
  ·cases e
 ·rename_i b;have f:=yF (Tab.ok ok b) rfl;split at e
  ·cases e;have c:=h.val.1;rw[c,run_len_string w t ty _ f];rfl
  ·cases e
 ·cases e
theorem T8 {s:DSl}(h:Tells cx D w s y)(e:FG s=true):∃a,y = .pointer (some a):=by
 cases s<;>simp[FG]at e
 ·obtain⟨b,ts,_,c⟩:=h.val;exact⟨_,c⟩
 ·obtain⟨d,z,n,_,_,c⟩:=h.val;exact⟨_,c⟩
 ·exact⟨_,h.val⟩
theorem Dg {b:List (DT×Value)}(I:Inv cx D b a.tmps w){x:Option Operand}{n:Option Int}(h:jV nilD D x=some n):
  ∃p:Option (IntKind×Int),n=p.map Prod.snd∧x.map a.eval=bV p:=by
 unfold jV at h;split at h
 ·cases h;exact⟨none,rfl,rfl⟩
 ·rename_i x;split at h
  ·rename_i k n' e;cases h;have:=(I.opd e).val.1;exact⟨some (k,n'),rfl,by simp only[WB];rw[show a.eval x=_ from this]⟩
  ·cases h
theorem TR (ok:bz P tab){k:List DT}{xs ys:Array Value}(o:VCells us xs.toList)(p:VCells k ys.toList){z:Value}(e:eqS tab op t us k=some z)(x y:Operand)(w:World):
  (do eqGuard op t x y (.agg xs) (.agg ys);binOp op t (.agg xs) (.agg ys):Sem Value).run P w = .ok z w∧z.oneCell'=true:=by
 have g:∀{b:Bool},(tab.eq t).bind (k8 tab us k)=some b→(∀a,(eqGuard a t x y (.agg xs) (.agg ys)).run P w = .ok () w)∧(Op.equalIn 10000 t (.agg xs) (.agg ys)).run P w = .ok b w:=by
  intro b h;rw[WA]at h;obtain⟨l,j,r⟩:=h;have d:=Tab.okEq ok j;unfold Pg at d;split at d
  ·rename_i fs q;split at d
   ·rename_i hc;cases d;refine⟨fun a=>run_eqGuard_agg w a t x y xs ys hc.2.1,?_⟩;have hf:P.fieldsOf t=fs:=by simp[Program.fieldsOf,q]
    rw[run_equalIn_struct (P:=P) w 9999 t xs ys (by rw[hf];exact q) hc.1,hf];have s : ∀ f ∈ fs.toList, (f.name == "_") = false := by intro f m;have:=hc.2.2;rw[YX]at this;have:=this f (by simpa using m);simpa using this
    exact CZ ok (fun i u y hi c=>o.2 i u y hi (by simpa using c)) (fun i u y hi c=>p.2 i u y hi (by simpa using c)) (by simpa using o.1) (by simpa using p.1) 9998 w fs.toList s r
   ·cases d
  ·cases d
 unfold eqS at e;split at e
 ·rw[WD]at e;obtain⟨b,j,rfl⟩:=e;obtain⟨g1,n⟩:=g j;refine⟨?_,rfl⟩;simp only[Sem.run_bind,g1,Result.andThen_ok];rw[run_eql_struct,n];rfl
 ·rw[WD]at e;obtain⟨b,j,rfl⟩:=e;obtain⟨g1,n⟩:=g j;refine⟨?_,rfl⟩;simp only[Sem.run_bind,g1,Result.andThen_ok];rw[run_neq_struct,n];rfl
 ·cases e
theorem Tells.indexArr {P:Program}{tab:Tab}(ok:bz P tab){t:TypeId}{offs hs:List Nat}{q:Value}(r:Tells cx D w (.clo (.arr offs) hs) q){k:IntKind}{n:Int}(s:0≤n)(v:tab.ars.lookup t=some hs.length)(F:offs.length=hs.length){o:Nat}(hh:hs[n.toNat]?=some h)(x:offs[n.toNat]?=some o):
  ∃y,(Instr.index t q (.int k n)).run P w = .ok y w∧Tells cx D w (.pb h o) y:=by
 have a:=ok.ars _ (kg v);obtain⟨c,G,z,A⟩:=r.val;have B:n.toNat<hs.length:=by
  rcases WI n.toNat hs.length with g|g
  ·exact g
  ·rw[WF g]at hh;cases hh
 have hb:c[n.toNat]?=some c[n.toNat]:=WE (by omega);obtain⟨ts,C⟩:=z _ _ _ hh hb;unfold SJ at a;split at a
 case h_2=>cases a
 rename_i len e d;split at a
 case h_2=>cases a
 rename_i pe i j l;split at a
 case isFalse=>cases a
 rename_i m;cases a;have b:((c.zip offs).map fun p=>Value.pointer (some ⟨p.1.1,p.1.2+p.2,none⟩)).toArray[n.toNat]?=some (Value.pointer (some ⟨c[n.toNat].1,c[n.toNat].2+o,none⟩)):=by
  have hz:(c.zip offs)[n.toNat]?=some (c[n.toNat],o):=by rw[Yy];exact⟨hb,x⟩
  rw[YJ,WQ,hz];rfl
 refine⟨.pointer (some ⟨c[n.toNat].1,c[n.toNat].2+o,none⟩),?_,⟨⟨_,ts,C,rfl⟩,⟨fun u d=>by simp[an]at d,fun u d=>by simp[rootsO]at d,trivial⟩,fun u d=>by simp[an]at d,rfl⟩⟩;rw[A];have f:(0≤n∧n<(hs.length:Int)):=⟨s,by omega⟩
 simp only[Kn]at b ⊢;generalize (List.map (fun p=>Value.pointer (some ⟨p.1.1,p.1.2+p.2,none⟩)) (c.zip offs)).toArray=arr at b ⊢;simp[Instr.index,asIntOf,Go.underlying,d,f,part,isAgg,j,sizeOf,typeInfo,l,m,b]
theorem sq (ok:bz P tab)(I:Inv cx D [] a.tmps w){o:Oper}{s:DSl}(e:cf mkD tab D o.op=some s):
  ∃y,(execOp a.eval o).run P w = .ok (.value y) w∧Tells cx D w s y:=by
 have q:∀{x:Operand}{s:DSl},opd mkD.nil D x=some s→Tells cx D w s (a.eval x):=fun h=>I.opd h
 have one:∀{x:Operand}{v:Value},opd mkD.nil D x=some (.one (.v v))→a.eval x=v:=fun h=>(I.opd h).val.1
 unfold cf at e;split at e
 ·rename_i x g;exact⟨_,by simp[execOp,g],q e⟩
 ·rename_i x g;exact⟨_,by simp[execOp,g],q e⟩
 ·rename_i c x y g;split at e
  ·rename_i hc;exact⟨_,by simp[execOp,g,one hc,asBool],q e⟩
  ·rename_i hc;exact⟨_,by simp[execOp,g,one hc,asBool],q e⟩
  ·cases e
 ·rename_i x g;simp only[WA]at e;obtain⟨s',hs,e⟩:=e;split at e
  ·rename_i r;cases e;obtain⟨ad,L⟩:=T8 (q hs) r;exact⟨a.eval x,by simp[execOp,g,L],q hs⟩
  ·cases e
 ·rename_i op t x y ty g;split at e
  ·rename_i J K F hb;rw[WD]at e;obtain⟨z,hz,rfl⟩:=e;have:=SL ok x y w hz;refine⟨z,?_,.one_v _ (SK hz)⟩;simp only[execOp,g,one F,one hb];simp only[Sem.run_bind]at this ⊢;rw[this];rfl
  ·rename_i us vs F hb;rw[WD]at e;obtain⟨z,hz,rfl⟩:=e;obtain⟨xs,M,N⟩:=(q F).val;obtain⟨ys,X,O⟩:=(q hb).val;obtain⟨m,u⟩:=TR ok (op:=op) (t:=t) N O hz x y w;refine⟨z,?_,.one_v _ u⟩;simp only[execOp,g,M,X];simp only[Sem.run_bind]at m ⊢;rw[m];rfl
  ·cases e
 ·rename_i op t x g;split at e
  ·rename_i b hb;split at e
   ·cases e;exact⟨_,by simp[execOp,g,one hb,Op.unary],.one_v _ rfl⟩
   ·cases e
  ·rename_i k n hb;split at e
   ·cases e;exact⟨_,by simp[execOp,g,one hb,Op.unary,Op.intArith],.one_v _ rfl⟩
   ·cases e
  ·cases e
 ·rename_i Q dst x g;split at e
  ·rename_i k n ts sz Y ze k' M hs hd;cases e;have m:=FW (Tab.ok ok hd) rfl;obtain⟨i,d,z,g1,Z,_⟩:=iq (Tab.ok ok hs);have W:P.intKind dst=k':=by simp[Program.intKind,m]
   refine⟨_,?_,.one_v _ rfl⟩;simp only[execOp,g,one M,Sem.run_bind];rw[run_convert_int w Q dst k n (by simp[Z]) (by rw[W];exact m)];simp[W]
  ·cases e
 ·rename_i t x g;split at e
  ·rename_i p ti r A;split at e
   ·cases e
   ·rename_i R;obtain⟨y,m,u⟩:=Tells.load I (Tab.ok ok A) R (q r) e;exact⟨y,by simp[execOp,g,m],u⟩
  ·cases e
 ·rename_i t x f g;simp only[WA]at e;obtain⟨p,r,e⟩:=e;obtain⟨y,m,u⟩:=Tells.fieldAddr ok (q r) e;exact⟨y,by simp[execOp,g,m],u⟩
 ·rename_i t x i g;split at e
  ·rename_i p k n r G;obtain⟨y,m,u⟩:=Tells.indexAddr ok I (q r) (k:=k) e;exact⟨y,by simp[execOp,g,one G,m],u⟩
  ·cases e
 ·rename_i t x i g;split at e
  ·rename_i str k n hs G;split at e
   ·rename_i A;obtain⟨ti,A,S⟩:=TH A;have hu:=yF (Tab.ok ok A) S;split at e
    ·rename_i hb;cases e;refine⟨.int .u8 (jl str n),?_,.one_v _ rfl⟩;have Z0:n.toNat<str.size:=by omega
     simp only[execOp,g,one hs,one G,Sem.run_bind];have:=run_index_string (P:=P) w t str k n hu;rw[this];simp[hb.1,hb.2,jl]
    ·cases e
   ·cases e
  ·rename_i offs hs k n r G;split at e
   case isFalse=>cases e
   rename_i hc;split at e
   case h_2=>cases e
   rename_i h o hh ho;cases e;obtain⟨y,m,u⟩:=Tells.indexArr ok (q r) (k:=k) hc.1 hc.2.1 hc.2.2 hh ho;exact⟨y,by simp[execOp,g,one G,m],u⟩
  ·cases e
 ·rename_i t x lo hi g;split at e
  ·rename_i s' l h hs hl hh;obtain⟨pl,rfl,U⟩:=Dg I hl;obtain⟨ph,rfl,V⟩:=Dg I hh;obtain⟨y,m,u⟩:=Tells.slice ok I (q hs) pl ph e;exact⟨y,by simp[execOp,g,U,V,m],u⟩
  ·cases e
 ·rename_i c g;unfold EV at e;split at e
  ·rename_i x t hc j C;obtain⟨H,args,B⟩:=c;simp only at hc j C;obtain rfl:args = #[x]:=by rw[←X7];exact j
   obtain rfl:B = #[t]:=by rw[←X7];exact C
   subst hc;simp only[WA]at e;obtain⟨p,r,e⟩:=e;rw[WD]at e;obtain⟨n,G,rfl⟩:=e;have:=Tells.len ok (q r) G o.type;exact⟨_,by simp[execOp,g,resolve,invoke,builtin,this],.one_v _ rfl⟩
  ·rename_i ts x y hc j;obtain⟨H,args,B⟩:=c;simp only at hc j;obtain rfl:args = #[x,y]:=by rw[←X7];exact j
   subst hc;split at e
   ·rename_i k J k' K F hb;cases e;have:=run_max_int2 (P:=P) w B o.type k k' J K;exact⟨_,by simp[execOp,g,resolve,invoke,builtin,one F,one hb,this],.one_v _ rfl⟩
   ·cases e
  ·rename_i ts x y hc j;obtain⟨H,args,B⟩:=c;simp only at hc j;obtain rfl:args = #[x,y]:=by rw[←X7];exact j
   subst hc;split at e
   ·rename_i k J k' K F hb;cases e;have:=run_min_int2 (P:=P) w B o.type k k' J K;exact⟨_,by simp[execOp,g,resolve,invoke,builtin,one F,one hb,this],.one_v _ rfl⟩
   ·cases e
  ·cases e
 ·cases e
end
def mO (t:DT)(st:List (Nat×Nat))(d:Dec)(z n:Nat):Prop:=∃k rows,getN t st=some (.s k d z rows)∧rows.length=n
def rq (h c:Nat)(st:List (Nat×Nat)):DSl→Prop| .al b d a _ _=>b=h∧d=c∧a=st| .pe b d a _ _=>b=h∧d=c∧a=st|_=>False
def sL (h c:Nat)(s:DSl):Prop :=(∃a b ts off,s = .im (.lent h c a) b ts off)∨∃a d z r,(.s (.lent h c a) d z r:DT)∈rootsO s
theorem Bh {s:DSl}{a:List DT}(h:bh s=some cs)(c:a.length=cs.length):bh (setCells a s)=some a:=by
 cases s with
 |one t=>cases h;obtain⟨u,rfl⟩:=List.length_eq_one_iff.1 c;rfl
 |agg ts=>rfl
 |box b ts=>rfl
 |_=>cases h
theorem ll {s:DSl}(h:bh s=some cs):an s=cs∧rootsO s=cs:=by cases s<;>cases h<;>exact⟨rfl,rfl⟩
theorem HE {c:Nat}(e:ia D h c t'=some D'):
  ∃s cs,D[h]?=some s∧bh s=some cs∧D'=D.set h (setCells (cs.set c t') s):=by
 unfold ia at e;split at e
 ·rename_i s hs;rw[WD]at e;obtain⟨cs,a,rfl⟩:=e;exact⟨s,cs,hs,a,rfl⟩
 ·cases e
def xG (b:Nat):DSl→Nat| .box a _=>[a.1].count b|_=>0
theorem q9 {s:DSl}(h:bh s=some cs)(b:Nat):(ownBl s).count b=xG b s+(cs.flatMap ownR).count b:=by
 cases s with
 |one t=>cases h;simp[ownBl,xG]
 |agg ts=>cases h;simp[ownBl,xG]
 |box a ts=>cases h;rw[xG, ←W3];rfl
 |_=>cases h
structure UM (cx:Cx)(D:DSt)(P P':List (DT×Value))(w w':World)(h c:Nat)(t t':DT):Prop where
 at_:aw D h c=some t
 own:t.isOwn=true
 holds:Holds w' t'
 ownT:t'.isOwn=true→OwnT w' t'
 kind:t'.isOwn=true∨t' = .any
 val:∀y,VT t y→VT t' y
 cnt:∀b,(ownR t').count b+bc P' b≤(if b<w.heap.size then(ownR t).count b+bc P b else 1)
 new:∀b,w.heap.size≤b→0<(ownR t').count b+bc P' b→b<w'.heap.size
 hides:∀s∈D,¬sL h c s
 speak:∀s∈D,∀st,rq h c st s→t'.isOwn=true∧∀d z n,mO t st d z n→mO t' st d z n
 size:w.heap.size≤w'.heap.size
 same:∀b,b<w.heap.size→b∉bl t→w'.heap[b]?=w.heap[b]?
 os:w'.os=w.os
 tape:w'.tape=w.tape
 output:w'.output=w.output
 pend:∀p∈P',VT p.1 p.2∧Holds w' p.1∧(p.1.isOwn=true→OwnT w' p.1)∧(p.1.isOwn=false→∀x∈bl p.1,cx.far x)
theorem cQ {s:DSl}{b:Nat}(hs:s∈D)(hb:b∈ownBl s):0<bF D b:=by unfold bF;exact WW.2 (WP.2 ⟨s,hs,hb⟩)
theorem Inv.apart (I:Inv cx D P tm w){u v:Nat}{s s':DSl}(a:u≠v)(hs:D[u]?=some s)(c:D[v]?=some s'){b:Nat}(hb:b∈ownBl s)(d:b∈ownBl s'):False:=by
 have f:=bY ownBl (Sl.any:DSl) b D u s hs;have g:(ownBl (Sl.any:DSl)).count b=0:=rfl;have h:0<((D.set u .any).flatMap ownBl).count b:=by refine WW.2 (WP.2 ⟨s',?_,d⟩);refine WC (i:=v) ?_;rw[WR a];exact c
 have e:=I.once b;have j:0<(ownBl s).count b:=WW.2 hb;unfold bF at e;omega
theorem PA {ts:List DT}{b:Nat}(hc:(ts.flatMap ownR).count b≤1){j:Nat}{v:DT}(a:i≠j)(hi:ts[i]?=some u)(c:ts[j]?=some v)(d:b∈ownR u)(hv:b∈ownR v):False:=by
 have e:=bY ownR (T.any:DT) b ts i u hi;have f:(ownR (T.any:DT)).count b=0:=rfl;have g:0<((ts.set i .any).flatMap ownR).count b:=by refine WW.2 (WP.2 ⟨v,?_,hv⟩);refine WC (i:=j) ?_;rw[WR a];exact c
 have h:0<(ownR u).count b:=WW.2 d;omega
theorem Inv.cells_once (I:Inv cx D P tm w){s:DSl}(hs:D[h]?=some s)(hc:bh s=some cs)(b:Nat):
  (cs.flatMap ownR).count b≤1:=by
 have c:=q9 hc b;have a:=I.once b;have d:=bY ownBl (Sl.any:DSl) b D h s hs;have e:(ownBl (Sl.any:DSl)).count b=0:=rfl;unfold bF at a;omega
theorem Inv.owner (I:Inv cx D P tm w){c:Nat}{t:DT}(hc:aw D h c=some t)(m:t.isOwn=true){j k:Nat}(a:aw D j k=some t')(d:t'.isOwn=true){b:Nat}(hb:b∈bl t)(f:b∈bl t'):j=h∧k=c:=by
 obtain⟨s,q,z,A,r,u⟩:=cj hc;obtain⟨s',g1,B,g3,v,g4⟩:=cj a;by_cases e:j=h
 ·subst e;refine⟨rfl,?_⟩;by_cases n:k=c
  ·exact n
  ·exfalso;unfold aw at hc a;simp only[WA]at hc a;obtain⟨cs,⟨C,o,p⟩,x⟩:=hc;obtain⟨y,⟨F,g,i⟩,l⟩:=a;rw[o]at g;cases g;rw[p]at i;cases i;exact PA (ts:=cs) (I.cells_once o p b) n l x (by simp[ownR,d,f]) (by simp[ownR,m,hb])
 ·exact(I.apart e g1 q (g4 d b f) (u m b hb)).elim
theorem Inv.root_out (I:Inv cx D P tm w){c:Nat}{t:DT}(hc:aw D h c=some t)(q:t.isOwn=true){u:Nat}{s:DSl}(hs:D[u]?=some s)(A:¬sL h c s){v:DT}(hv:v∈an s)(J:u=h→∃(i:Nat) (cs:List DT),bh s=some cs∧cs[i]?=some v∧i≠c){b:Nat}(hb:b∈bl v)(g:b∈bl t):False:=by
 obtain⟨sh,l,B,U,S,C⟩:=cj hc;have m:=(I.bnd b (by have:=cQ B (C q b g);omega)).1;have y:=I.kind s (WC hs);have a:v∈rootsO s→bQ cx D v→(v.isOwn=true→False)→False:=by
  intro K F j;cases v with
  |v x=>simp[bl]at hb
  |any=>simp[bl]at hb
  |s k d z r =>
   cases k with
   |far=>exact Cx.far_not (F b hb) m
   |lent V W L =>obtain⟨t',g1,M,g3,X⟩:=F;obtain⟨rfl,rfl⟩:=I.owner hc q g1 M g (g3 b hb);exact A (.inr ⟨L,d,z,r,K⟩)
   |own=>exact j rfl
 have home:∀cs,bh s=some cs→v.isOwn=true→False:=by
  intro cs G j;by_cases e:u=h
  ·obtain⟨i,Y,H,hi,N⟩:=J e;have n:aw D u i=some v:=by simp[aw,hs,H,hi]
   exact N (I.owner hc q n j g hb).2
  ·rw[(ll G).1]at hv;obtain⟨i,hi⟩:=WL hv;have n:aw D u i=some v:=by simp[aw,hs,G,hi]
   exact e (I.owner hc q n j g hb).1
 cases s with
 |one x=>exact a hv (y v hv) (home _ rfl)
 |agg x=>exact a hv (y v hv) (home _ rfl)
 |box O x=>exact a hv (y v hv) (home _ rfl)
 |tup rs =>
  refine a hv (y v hv) fun j=>?_
  have Q:b∈ownBl (.tup rs:DSl):=by simp only[an,WP]at hv;obtain⟨p,R,hv⟩:=hv;simp only[ownBl,WP];exact⟨p,R,v,hv,by simp[ownR,j,hb]⟩
  by_cases e:u=h
  ·subst e;rw[hs]at l;cases l;simp[aw,hs,bh]at hc
  ·exact I.apart e hs l Q (C q b g)
 |im k O ts off =>
  have o:qk cx D k O.1 ts:=y;cases k with
  |own=>exact o
  |far=>exact Cx.far_not (o.2 v hv b hb) m
  |lent V W L =>obtain⟨t',g1,M,g3,g4⟩:=o;obtain⟨rfl,rfl⟩:=I.owner hc q g1 M g (g4 v hv b hb);exact A (.inl ⟨L,O,ts,off,rfl⟩)
 |fni f caps =>simp only[an,WP]at hv;obtain⟨p,R,hv⟩:=hv;exact Cx.far_not ((y p R).2 v hv b hb) m
 |any=>simp[an]at hv
 |al=>simp[an]at hv
 |pe=>simp[an]at hv
 |pb=>simp[an]at hv
 |clo=>simp[an]at hv
theorem lu {c:Nat}{s:DSl}(hs:¬sL h c s):∀a d z r,(.s (.lent h c a) d z r:DT)∉rootsO s :=
 fun a d z r b=>hs (.inr ⟨a,d,z,r,b⟩)
theorem Inv.upd {P':List (DT×Value)}(I:Inv cx D P tm w){c:Nat}{t:DT}(e:ia D h c t'=some D')(U:UM cx D P P' w w' h c t t'):Inv cx D' P' tm w':=by
 obtain⟨F,cs,hs0,m,rfl⟩:=HE e;have O:=U.at_;have hct:cs[c]?=some t:=by have:=U.at_;simp only[aw,hs0,Wy,m]at this;exact this
 have Z5:(cs.set c t').length=cs.length:=by simp
 have J:h<D.length:=by
  rcases WI h D.length with g|g
  ·exact g
  ·rw[WF g]at hs0;cases hs0
 have A:c<cs.length:=by
  rcases WI c cs.length with g|g
  ·exact g
  ·rw[WF g]at hct;cases hct
 have C:=Bh m Z5;have Z1:=WC hs0;have l:∀q o,¬(q=h∧o=c)→aw (D.set h (setCells (cs.set c t') F)) q o=aw D q o:=by
  intro q o Z3;by_cases e:q=h
  ·subst e;have Z6:o≠c:=fun g=>Z3 ⟨rfl,g⟩
   unfold aw;rw[WN J,hs0];simp only[Wy,C,m];rw[WR (fun g=>Z6 g.symm)]
  ·exact nB e
 have N:aw (D.set h (setCells (cs.set c t') F)) h c=some t':=by unfold aw;rw[WN J];simp only[Wy,C];rw[WN A]
 have Z2:∀b,bF (D.set h (setCells (cs.set c t') F)) b+(ownR t).count b=bF D b+(ownR t').count b:=by
  intro b;have h1:=bY ownBl (setCells (cs.set c t') F) b D h F hs0;have h2:=q9 m b;have h3:=q9 C b;have h4:=bY ownR t' b cs c t hct;have h5:xG b (setCells (cs.set c t') F)=xG b F:=by cases F<;>rfl
  rw[h5]at h3;unfold bF;omega
 have V:∀(u:Nat)(s:DSl),D[u]?=some s→¬sL h c s:=fun u s hs=>U.hides s (WC hs)
 have Z4:∀b∈bl t,cx.may b:=by intro b hb;obtain⟨sh,g1,Q,g3,Z7,g4⟩:=cj O;exact(I.bnd b (by have:=cQ Q (g4 U.own b hb);omega)).1
 have K:∀(u:Nat)(X:Nat×Nat)(ts:List DT),D[u]?=some (.box X ts)→X.1∉bl t:=by
  intro u X ts hb S;obtain⟨sh,g1,Q,g3,Z7,g4⟩:=cj O;by_cases e:u=h
  ·subst e;rw[hs0]at hb;cases hb;cases m;have h1:=I.once X.1;have h2:(ownBl (.box X cs:DSl)).count X.1=1+(cs.flatMap ownR).count X.1:=by simp[ownBl,Y7]
   have h3:=bY ownBl (Sl.any:DSl) X.1 D u _ hs0;have h0:(ownBl (Sl.any:DSl)).count X.1=0:=rfl;have h4:0<(cs.flatMap ownR).count X.1:=WW.2 (WP.2 ⟨t,WC hct,by simp[ownR,U.own,S]⟩);unfold bF at h1;omega
  ·exact I.apart e hb g1 (by simp[ownBl]) (g4 U.own _ S)
 have fr:∀{v:DT},(∀b∈bl v,b∈bl t→False)→∀b∈bl v,b<w.heap.size→w'.heap[b]?=w.heap[b]?:=fun h b hb J=>U.same b J fun B=>h b hb B
 have lies:∀{b:Nat×Nat}{ts:List DT},b.1∉bl t→Lies w b ts→Lies w' b ts:=by rintro b ts hb ⟨o,e',f,h1,h2⟩;exact⟨o,e',f,by rw[U.same _ (d8 h1) hb];exact h1,h2⟩
 refine⟨by have:=I.size;simpa using this,?_,?_,?_,U.pend,?_,?_,?_⟩
 ·intro u s hs;have vs:∀(s:DSl),s∈D→∀y,VS D s y→VS (D.set h (setCells (cs.set c t') F)) s y:=by
   intro s Z8 y hv;have nd:∀q o st d z n,rq q o st s→fi D q o st d z n→fi (D.set h (setCells (cs.set c t') F)) q o st d z n:=by
    intro q o st d z n hsp hn;by_cases e:q=h∧o=c
    ·obtain⟨rfl,rfl⟩:=e;obtain⟨t1,G,L,k3⟩:=hn;rw[O]at G;cases G;obtain⟨g1,Q⟩:=U.speak s Z8 st hsp;exact⟨t',N,g1,Q d z n k3⟩
    ·unfold fi;rw[l q o e];exact hn
   have bx:∀(q:Nat)(b:Nat×Nat)(ts:List DT),D[q]?=some (.box b ts)→∃ts',(D.set h (setCells (cs.set c t') F))[q]?=some (.box b ts'):=by
    intro q b ts hb;by_cases e:q=h
    ·subst e;rw[hs0]at hb;cases hb;exact⟨_,by rw[WN J];rfl⟩
    ·exact⟨ts,by rw[WR (fun g=>e g.symm)];exact hb⟩
   cases s with
   |al q o st lo len =>obtain⟨d,z,n,a,G,L⟩:=hv;exact⟨d,z,n,a,nd q o st d z n ⟨rfl,rfl,rfl⟩ G,L⟩
   |pe q o st i off =>obtain⟨d,z,n,G,L⟩:=hv;exact⟨d,z,n,nd q o st d z n ⟨rfl,rfl,rfl⟩ G,L⟩
   |pb q off =>obtain⟨b,ts,G,L⟩:=hv;obtain⟨ts',k3⟩:=bx _ _ _ G;exact⟨b,ts',k3,L⟩
   |clo f hs =>obtain⟨bs,G,L,k3⟩:=hv;exact⟨bs,G,fun i h b hi hb=>by obtain⟨ts,k4⟩:=L i h b hi hb;exact bx _ _ _ k4,k3⟩
   |_=>exact hv
  by_cases Y:u=h
  ·subst Y;rw[WN J]at hs;cases hs;have hv:=I.val u F hs0;have cells:∀ys:List Value,VCells cs ys→VCells (cs.set c t') ys:=by
    rintro ys ⟨G,L⟩;refine⟨by simpa using G,fun i v y hi hy=>?_⟩;by_cases R:i=c
    ·subst R;rw[WN A]at hi;cases hi;exact U.val y (L i t y hct hy)
    ·rw[WR (fun g=>R g.symm)]at hi;exact L i v y hi hy
   cases F with
   |one x =>
    cases m;have:c=0:=by simp at A;exact A
    subst this;simp at hct;subst hct;exact U.val _ hv
   |agg ts =>cases m;obtain⟨ys,G,L⟩:=hv;exact⟨ys,G,cells _ L⟩
   |box b ts=>exact hv
   |_=>cases m
  ·rw[WR (fun g=>Y g.symm)]at hs;exact vs s (WC hs) _ (I.val u s hs)
 ·intro s hs;obtain⟨u,hu⟩:=WL hs;by_cases Y:u=h
  ·subst Y;rw[WN J]at hu;cases hu;have S:=I.mem F Z1;have hr:=ll m;have Z:=ll C;have W:∀i v,cs[i]?=some v→i≠c→∀b∈bl v,b∈bl t→False:=by intro i v hi Z9 b hb B;exact I.root_out O U.own hs0 (V _ _ hs0) (v:=v) (by rw[hr.1];exact WC hi) (fun _=>⟨i,cs,m,hi,Z9⟩) hb B
   refine⟨?_,?_,?_⟩
   ·intro v hv;rw[Z.1]at hv;obtain⟨i,hi⟩:=WL hv;by_cases R:i=c
    ·subst R;rw[WN A]at hi;cases hi;exact U.holds
    ·rw[WR (fun g=>R g.symm)]at hi;exact(S.1 v (by rw[hr.1];exact WC hi)).frame (fr (W i v hi R))
   ·intro v hv ho;rw[Z.2]at hv;obtain⟨i,hi⟩:=WL hv;by_cases R:i=c
    ·subst R;rw[WN A]at hi;cases hi;exact U.ownT ho
    ·rw[WR (fun g=>R g.symm)]at hi;exact(S.2.1 v (by rw[hr.2];exact WC hi) ho).frame (fr (W i v hi R))
   ·cases F with
    |box b ts =>
     cases m;have hb:=K u b _ hs0;obtain⟨G,L⟩:=S.2.2;refine⟨?_,?_⟩
     ·obtain⟨o,e',f,g1,Q⟩:=lies hb G;refine⟨o,e',f,g1,fun j v hj=>?_⟩;by_cases ej:j=c
      ·subst ej;rw[WN A]at hj;cases hj;obtain⟨y,g3,g4⟩:=Q j t hct;exact⟨y,g3,U.val y g4⟩
      ·rw[WR (fun g=>ej g.symm)]at hj;exact Q j v hj
     ·intro o e' lo hi g1;rw[U.same _ G.lt hb]at g1;simpa using L o e' lo hi g1
    |one x=>trivial
    |agg x=>trivial
    |_=>cases m
  ·rw[WR (fun g=>Y g.symm)]at hu;have S:=I.mem s (WC hu);have W:∀v∈an s,∀b∈bl v,b∈bl t→False:=fun v hv b hb B =>I.root_out O U.own hu (V _ _ hu) hv (fun g=>absurd g Y) hb B
   refine⟨fun v hv=>(S.1 v hv).frame (fr (W v hv)),fun v hv ho=>?_,?_⟩
   ·have hv':v∈an s:=by cases s<;>simp_all[rootsO,an]
    exact(S.2.1 v hv ho).frame (fr (W v hv'))
   ·have H:=I.kind s (WC hu);cases s with
    |box b ts =>have hb:=K u b _ hu;obtain⟨G,L⟩:=S.2.2;exact⟨lies hb G,fun o e' lo hi g1=>by rw[U.same _ G.lt hb]at g1;exact L o e' lo hi g1⟩
    |im k b ts off =>
     refine lies ?_ S.2.2;intro B;cases k with
     |own=>exact H
     |far=>exact Cx.far_not H.1 (Z4 _ B)
     |lent q o M =>obtain⟨t1,g1,Q,g3,g4⟩:=H;obtain⟨rfl,rfl⟩:=I.owner O U.own g1 Q B g3;exact V _ _ hu (.inl ⟨M,b,ts,off,rfl⟩)
    |fni f caps=>exact fun p hp=>lies (fun B=>Cx.far_not (H p hp).1 (Z4 _ B)) (S.2.2 p hp)
    |_=>trivial
 ·intro s hs;obtain⟨u,hu⟩:=WL hs;have kt:∀v:DT,(∀M d z r,v ≠ .s (.lent h c M) d z r)→bQ cx D v→bQ cx (D.set h (setCells (cs.set c t') F)) v:=by
   intro v Z3 H;cases v with
   |v x=>trivial
   |any=>trivial
   |s k d z r =>
    cases k with
    |own=>trivial
    |far=>exact H
    |lent q o M =>obtain⟨t1,g1,Q,g3⟩:=H;refine⟨t1,?_,Q,g3⟩;rw[l q o (by rintro⟨rfl,rfl⟩;exact Z3 M d z r rfl)];exact g1
  by_cases Y:u=h
  ·subst Y;rw[WN J]at hu;cases hu;have H:=I.kind F Z1;have hr:=ll m;have Z:=ll C;have all:∀v∈cs.set c t',bQ cx (D.set u (setCells (cs.set c t') F)) v:=by
    intro v hv;obtain⟨i,hi⟩:=WL hv;by_cases R:i=c
    ·subst R;rw[WN A]at hi;cases hi;rcases U.kind with g|g
     ·cases t' with
      |v x=>trivial
      |any=>trivial
      |s k d z r=>cases k<;>first|trivial|(simp[T.isOwn]at g)
     ·rw[g];trivial
    ·rw[WR (fun g=>R g.symm)]at hi;have Z0:v∈an F:=by rw[hr.1];exact WC hi
     refine kt v (fun M d z r g=>lu (V _ _ hs0) M d z r (by rw[hr.2, ←hr.1];exact g ▸ Z0)) ?_;cases F with
     |one x=>exact H v Z0
     |agg x=>exact H v Z0
     |box b x=>exact H v Z0
     |_=>cases m
   cases F with
   |one x =>intro v hv;exact all v (by rw[←Z.1];exact hv)
   |agg x=>exact all
   |box b x=>exact all
   |_=>cases m
  ·rw[WR (fun g=>Y g.symm)]at hu;have H:=I.kind s (WC hu);have hh:=V _ _ hu;cases s with
   |im k b ts off =>
    cases k with
    |own=>exact H
    |far=>exact H
    |lent q o M =>obtain⟨t1,g1,Q,g3⟩:=H;refine⟨t1,?_,Q,g3⟩;rw[l q o (by rintro⟨rfl,rfl⟩;exact hh (.inl ⟨M,b,ts,off,rfl⟩))];exact g1
   |fni f caps=>exact H
   |any=>exact fun v hv=>by simp[an]at hv
   |al=>exact fun v hv=>by simp[an]at hv
   |pe=>exact fun v hv=>by simp[an]at hv
   |pb=>exact fun v hv=>by simp[an]at hv
   |clo=>exact fun v hv=>by simp[an]at hv
   |one x=>exact fun v hv=>kt v (fun M d z r g=>lu hh M d z r (g ▸ hv)) (H v hv)
   |agg x=>exact fun v hv=>kt v (fun M d z r g=>lu hh M d z r (g ▸ hv)) (H v hv)
   |box b x=>exact fun v hv=>kt v (fun M d z r g=>lu hh M d z r (g ▸ hv)) (H v hv)
   |tup x=>exact fun v hv=>kt v (fun M d z r g=>lu hh M d z r (g ▸ hv)) (H v hv)
 ·intro b;have h1:=Z2 b;have h2:=U.cnt b;have h3:=I.once b;by_cases hb:b<w.heap.size
  ·rw[Wz hb]at h2;omega
  ·rw[WM hb]at h2;have:bF D b+bc P b=0:=by
    rcases Xt (bF D b+bc P b)with g|g
    ·exact g
    ·exact absurd (I.bnd b g).2 hb
   omega
 ·intro b hpos;have h1:=Z2 b;have h2:=U.cnt b;by_cases hb:b<w.heap.size
  ·rw[Wz hb]at h2;exact⟨(I.bnd b (by omega)).1,Xf hb U.size⟩
  ·have:bF D b+bc P b=0:=by
    rcases Xt (bF D b+bc P b)with g|g
    ·exact g
    ·exact absurd (I.bnd b g).2 hb
   exact⟨.inl (Xu I.frame.size (Nat.le_of_not_lt hb)),U.new b (Nat.le_of_not_lt hb) (by omega)⟩
 ·refine⟨U.os.trans I.frame.os,U.tape.trans I.frame.tape,U.output.trans I.frame.output,Xu I.frame.size U.size,fun b hb=>?_⟩;rw[U.same b (Xf hb.1 I.frame.size) (fun B=>Cx.far_not hb (Z4 b B))];exact I.frame.same b hb
theorem wM {rows:List (List DT)}{c:Nat}{row:List DT}{u':DT}(hi:rows[i]?=some row)(a:row[c]?=some u)(b:Nat):
  ((rows.set i (row.set c u')).flatMap fun x=>x.flatMap bl).count b+(bl u).count b=(rows.flatMap fun x=>x.flatMap bl).count b+(bl u').count b:=by
 have d:=bY (fun x:List DT=>x.flatMap bl) (row.set c u') b rows i row hi;have e:=bY bl u' b row c u a;omega
theorem JV {rows:List (List DT)}{c:Nat}{row:List DT}(hi:rows[i]?=some row)(a:row[c]?=some u)(b:Nat):
  (bl u).count b+(if d.nil then 0 else [d.b].count b)≤(bl (.s k d z rows)).count b:=by
 have h:=wM (u' := .any) hi a b;rw[cS,W3];have:(bl (.any:DT)).count b=0:=rfl;split<;>simp<;>omega
theorem Qq {rows:List (List DT)}{c f j:Nat}{row a:List DT}{v:DT}{b:Nat}(m:(rows.flatMap fun x=>x.flatMap bl).count b≤1)(hi:rows[i]?=some row)(n:row[c]?=some u)(d:rows[f]?=some a)(hj':a[j]?=some v)(k:¬(f=i∧j=c))(o:b∈bl u)(hv:b∈bl v):False:=by
 have h:=wM (u':=(.any:DT)) hi n b;have p:(bl (.any:DT)).count b=0:=rfl;have q:0<(bl u).count b:=WW.2 o;have l:i<rows.length:=by
  rcases WI i rows.length with g|g
  ·exact g
  ·rw[WF g]at hi;cases hi
 have r:0<((rows.set i (row.set c .any)).flatMap fun x=>x.flatMap bl).count b:=by
  refine WW.2 (WP.2 ?_);by_cases e:f=i
  ·subst e;rw[hi]at d;cases d;have hc:c≠j:=fun g=>k ⟨rfl,g.symm⟩
   refine⟨row.set c .any,WC (i:=f) (by rw[WN l]),WP.2 ⟨v,WC (i:=j) (by rw[WR hc];exact hj'),hv⟩⟩
  ·exact⟨a,WC (i:=f) (by rw[WR (fun g=>e g.symm)];exact d),WP.2 ⟨v,WC hj',hv⟩⟩
 omega
structure NodeOk (w w':World)(n n':DT):Prop where
 holds:Holds w' n'
 own:OwnT w' n'
 val:∀y,VT n y→VT n' y
 same:∀b,b<w.heap.size→b∉bl n→w'.heap[b]?=w.heap[b]?
theorem HJ {f:DT→Option DT}{w w':World}{n n':DT}(N:NodeOk w w' n n')(hf:f n=some n'):∀(st:List (Nat×Nat)){t t':DT},Holds w t→OwnT w t→(∀b,(bl t).count b≤1) →
  getN t st=some n→gN f t st=some t' →
  NodeOk w w' t t'∧(∀b,(bl t').count b+(bl n).count b=(bl t).count b+(bl n').count b)∧(st≠[]→t'.isOwn=true∧∀d z m,mO t [] d z m→mO t' [] d z m)∧getN t' st=some n'
 |[],t,t',hh,ho,W,G,L=>by cases G;simp only[gN,hf]at L;cases L;exact⟨N,fun b=>Y7 _ _,fun h=>absurd rfl h,rfl⟩
 |(i,c)::st,t,t',hh,ho,W,G,L=>by
  cases t with
  |v x=>simp[getN]at G
  |any=>simp[getN]at G
  |s k d z rows =>
   simp only[getN,WA]at G;obtain⟨u,⟨row,hi,F⟩,G⟩:=G;simp only[gN,hi,F,Wy,WD]at L;obtain⟨u',L,rfl⟩:=L;have H:i<rows.length:=by
    rcases WI i rows.length with g|g
    ·exact g
    ·rw[WF g]at hi;cases hi
   have I:c<row.length:=by
    rcases WI c row.length with g|g
    ·exact g
    ·rw[WF g]at F;cases F
   cases hh with
   |e=>simp at hi
   |s _ _ _ _ B hsp c0 e0 f0 hb hcap hz hv hh =>
    cases ho with
    |nil=>simp at hi
    |s _ _ _ X hsp c1 e1 Y Z Q M hroom Z0 R =>
     have S:∀b,(bl u).count b+[d.b].count b≤1:=by intro b;have:=JV (k := .own) (d:=d) (z:=z) hi F b;rw[B]at this;simp only[W2,Xs]at this;exact Xu this (W b)
     obtain⟨N',Z1,Z5,Z2⟩:=HJ N hf st (hh i row c u hi F) (R i row c u hi F) (fun b=>by have:=S b;omega) G L;have C:∀b,b∈bl n→b∈bl u:=xF st G;have U:d.b∉bl n:=by intro hm;have h2:=S d.b;have h3:0<(bl u).count d.b:=WW.2 (C _ hm);simp at h2;omega
     have Z3:w'.heap[d.b]?=some (.cells c0 e0 f0):=by rw[N.same _ (d8 hb) U];exact hb
     have V:∀b,(rows.flatMap fun x=>x.flatMap bl).count b≤1:=by intro b;have:=W b;rw[cS,W3]at this;exact Xu (Nat.le_add_left _ _) this
     have J:∀(p:Nat)(a:List DT),(rows.set i (row.set c u'))[p]?=some a→(p=i∧a=row.set c u')∨(p≠i∧rows[p]?=some a):=by
      intro p a o;by_cases e:p=i
      ·subst e;rw[WN H]at o;cases o;exact .inl ⟨rfl,rfl⟩
      ·rw[WR (fun g=>e g.symm)]at o;exact .inr ⟨e,o⟩
     have r:∀(p:Nat)(a:List DT)(j:Nat)(v:DT),(rows.set i (row.set c u'))[p]?=some a→a[j]?=some v →
       (p=i∧j=c∧v=u')∨(¬(p=i∧j=c)∧∃l,rows[p]?=some l∧l[j]?=some v):=by
      intro p a j v o q;rcases J p a o with⟨rfl,rfl⟩|⟨e,o⟩
      ·by_cases ej:j=c
       ·subst ej;rw[WN I]at q;cases q;exact .inl ⟨rfl,rfl,rfl⟩
       ·rw[WR (fun g=>ej g.symm)]at q;exact .inr ⟨fun g=>ej g.2,row,hi,q⟩
      ·exact .inr ⟨fun g=>e g.1,a,o,q⟩
     have K:∀(p:Nat)(l:List DT)(j:Nat)(v:DT),¬(p=i∧j=c)→rows[p]?=some l→l[j]?=some v→∀b∈bl v,b<w.heap.size→w'.heap[b]?=w.heap[b]?:=by intro p l j v D o q b hb O;exact N.same b O fun P=>Qq (V b) hi F o q D (C b P) hb
     refine⟨⟨?_,?_,?_,?_⟩,?_,?_,?_⟩
     ·refine .s _ _ _ _ B hsp c0 e0 f0 Z3 (by simpa using hcap) ?_ ?_ ?_
      ·intro p a o;rcases J p a o with⟨rfl,rfl⟩|⟨e,o⟩
       ·simpa using hz p row hi
       ·exact hz p a o
      ·intro p a j v o q;rcases r p a j v o q with⟨rfl,rfl,rfl⟩|⟨_,l,g1,A⟩
       ·obtain⟨y,g1,A⟩:=hv p row j u hi F;exact⟨y,g1,N'.val y A⟩
       ·exact hv p l j v g1 A
      ·intro p a j v o q;rcases r p a j v o q with⟨rfl,rfl,rfl⟩|⟨D,l,g1,A⟩
       ·exact N'.holds
       ·exact(hh p l j v g1 A).frame (K p l j v D g1 A)
     ·refine .s _ _ _ B hsp c1 e1 Y Z (by rw[N.same _ (d8 Q) U];exact Q) (by simpa using M) hroom Z0 ?_;intro p a j v o q;rcases r p a j v o q with⟨rfl,rfl,rfl⟩|⟨D,l,g1,A⟩
      ·exact N'.own
      ·exact(R p l j v g1 A).frame (K p l j v D g1 A)
     ·intro y hy;simpa[VT]using hy
     ·intro b O hb;exact N.same b O fun P=>hb (lZ hi F (C b P))
     ·intro b;have g1:=wM (u':=u') hi F b;have A:=Z1 b;rw[cS,cS,W3,W3];omega
     ·intro _;refine⟨rfl,?_⟩;rintro d1 z1 m ⟨k1,Z4,g1,A⟩;cases g1;exact⟨_,_,rfl,by simpa using A⟩
     ·simp only[getN];rw[WN H];simp only[Wy];rw[WN I];exact Z2
structure UL (cx:Cx)(D:DSt)(P P':List (DT×Value))(w w':World)(h:Nat)(b:Nat×Nat)(ts ts':List DT):Prop where
 at_:D[h]?=some (.box b ts)
 len:ts'.length=ts.length
 lies:Lies w' b ts'
 free:Free w' b ts.length
 holds:∀t∈ts',Holds w' t
 ownT:∀t∈ts',t.isOwn=true→OwnT w' t
 kind:∀t∈ts',bQ cx (D.set h (.box b ts')) t
 cnt:∀x,(ts'.flatMap ownR).count x+bc P' x≤(ts.flatMap ownR).count x+bc P x
 keep:∀(c:Nat)(t:DT),ts[c]?=some t→t.isOwn=true→ts'[c]?=some t∨((∀s∈D,¬sL h c s)∧∀s∈D,∀st,¬rq h c st s)
 size:w.heap.size≤w'.heap.size
 same:∀x,x<w.heap.size→x≠b.1→w'.heap[x]?=w.heap[x]?
 os:w'.os=w.os
 tape:w'.tape=w.tape
 output:w'.output=w.output
 pend:∀p∈P',VT p.1 p.2∧Holds w' p.1∧(p.1.isOwn=true→OwnT w' p.1)∧(p.1.isOwn=false→∀x∈bl p.1,cx.far x)
theorem Inv.box_tree (I:Inv cx D P tm w){b:Nat×Nat}{ts:List DT}(hb:D[h]?=some (.box b ts)){a c:Nat}{t:DT}(hc:aw D a c=some t)(d:t.isOwn=true):b.1∉bl t:=by
 intro f;obtain⟨s,g1,j,g3,g,g4⟩:=cj hc;by_cases e:a=h
 ·subst e;rw[hb]at g1;cases g1;simp only[aw,hb,Wy,bh]at hc;have i:=I.once b.1;have k:(ownBl (.box b ts:DSl)).count b.1=1+(ts.flatMap ownR).count b.1:=by simp[ownBl,Y7]
  have l:=bY ownBl (Sl.any:DSl) b.1 D a _ hb;have m:(ownBl (Sl.any:DSl)).count b.1=0:=rfl;have n:0<(ts.flatMap ownR).count b.1:=WW.2 (WP.2 ⟨t,WC hc,by simp[ownR,d,f]⟩);unfold bF at i;omega
 ·exact I.apart e g1 hb (g4 d _ f) (by simp[ownBl])
theorem Inv.box_may (I:Inv cx D P tm w){b:Nat×Nat}{ts:List DT}(hb:D[h]?=some (.box b ts)):cx.may b.1∧b.1<w.heap.size :=
 I.bnd b.1 (by have:=cQ (b:=b.1) (WC hb) (by simp[ownBl]);omega)
theorem Inv.box_root (I:Inv cx D P tm w){b:Nat×Nat}{ts:List DT}(hb:D[h]?=some (.box b ts)){u:Nat}{s:DSl}(hs:D[u]?=some s){v:DT}(hv:v∈an s):b.1∉bl v:=by
 intro j;have c:=(I.box_may hb).1;have m:=I.kind s (WC hs);have lent:∀n o,(∃t',aw D n o=some t'∧t'.isOwn=true∧b.1∈bl t')→False:=fun n o ⟨t',g1,q,g3⟩=>I.box_tree hb g1 q g3
 have a:bQ cx D v→(v.isOwn=true→False)→False:=by
  intro t g;cases v with
  |v x=>simp[bl]at j
  |any=>simp[bl]at j
  |s k d z r =>
   cases k with
   |far=>exact Cx.far_not (t _ j) c
   |lent n o F =>obtain⟨t',g1,q,g3,G⟩:=t;exact lent n o ⟨t',g1,q,g3 _ j⟩
   |own=>exact g rfl
 have home:∀cs,bh s=some cs→v.isOwn=true→False:=by intro cs y g;rw[(ll y).1]at hv;obtain⟨i,hi⟩:=WL hv;exact lent u i ⟨v,by simp[aw,hs,y,hi],g,j⟩
 cases s with
 |one x=>exact a (m v hv) (home _ rfl)
 |agg x=>exact a (m v hv) (home _ rfl)
 |box C x=>exact a (m v hv) (home _ rfl)
 |tup rs =>
  refine a (m v hv) fun g=>?_
  have A:b.1∈ownBl (.tup rs:DSl):=by simp only[an,WP]at hv;obtain⟨p,B,hv⟩:=hv;simp only[ownBl,WP];exact⟨p,B,v,hv,by simp[ownR,g,j]⟩
  by_cases e:u=h
  ·subst e;rw[hs]at hb;cases hb
  ·exact I.apart e hs hb A (by simp[ownBl])
 |im k C ts off =>
  have l:qk cx D k C.1 ts:=m;cases k with
  |own=>exact l
  |far=>exact Cx.far_not (l.2 v hv _ j) c
  |lent n o F =>obtain⟨t',g1,q,g3,g4⟩:=l;exact lent n o ⟨t',g1,q,g4 v hv _ j⟩
 |fni f caps =>simp only[an,WP]at hv;obtain⟨p,B,hv⟩:=hv;exact Cx.far_not ((m p B).2 v hv _ j) c
 |any=>simp[an]at hv
 |al=>simp[an]at hv
 |pe=>simp[an]at hv
 |pb=>simp[an]at hv
 |clo=>simp[an]at hv
theorem Inv.boxSet {P':List (DT×Value)}(I:Inv cx D P tm w){b:Nat×Nat}{ts ts':List DT}(B:UL cx D P P' w w' h b ts ts'):
  Inv cx (D.set h (.box b ts')) P' tm w':=by
 have hb:=B.at_;have A:h<D.length:=by
  rcases WI h D.length with g|g
  ·exact g
  ·rw[WF g]at hb;cases hb
 have m:∀j o,j≠h→aw (D.set h (.box b ts')) j o=aw D j o:=fun j o e=>nB e
 have q:∀c,aw (D.set h (.box b ts')) h c=ts'[c]?:=by intro c;unfold aw;rw[WN A];rfl
 have y:∀c,aw D h c=ts[c]?:=by intro c;unfold aw;rw[hb];rfl
 have U:∀x,bF (D.set h (.box b ts')) x+(ts.flatMap ownR).count x=bF D x+(ts'.flatMap ownR).count x:=by intro x;have V:=bY ownBl (.box b ts') x D h _ hb;simp only[ownBl,XL]at V;unfold bF;omega
 have le:∀x,bF (D.set h (.box b ts')) x+bc P' x≤bF D x+bc P x:=by intro x;have V:=U x;have h2:=B.cnt x;omega
 have fr:∀{u:Nat}{s:DSl}{v:DT},D[u]?=some s→v∈an s→∀x∈bl v,x<w.heap.size→w'.heap[x]?=w.heap[x]?:=by intro u s v hs hv x O A;refine B.same x A ?_;rintro rfl;exact I.box_root hb hs hv O
 have lies:∀{Y:Nat×Nat}{l:List DT},Y.1≠b.1→Lies w Y l→Lies w' Y l:=by rintro Y l J ⟨o,e',f,V,h2⟩;exact⟨o,e',f,by rw[B.same _ (d8 V) J];exact V,h2⟩
 refine⟨by have:=I.size;simpa using this,?_,?_,?_,B.pend,fun x=>Xu (le x) (I.once x),?_,?_⟩
 ·intro u s hs;by_cases K:u=h
  ·subst K;rw[WN A]at hs;cases hs;exact I.val u _ hb
  ·rw[WR (fun g=>K g.symm)]at hs;have L:=WC hs;have hv:=I.val u s hs;have nd:∀j o st d z n,rq j o st s→fi D j o st d z n→fi (D.set h (.box b ts')) j o st d z n:=by
    rintro j o st d z n hsp ⟨t,C,F,R⟩;by_cases e:j=h
    ·subst e;rw[y]at C;rcases B.keep o t C F with g|⟨_,g⟩
     ·exact⟨t,by rw[q];exact g,F,R⟩
     ·exact absurd hsp (g s L st)
    ·exact⟨t,by rw[m j o e];exact C,F,R⟩
   have bx:∀(j:Nat)(H:Nat×Nat)(l:List DT),D[j]?=some (.box H l)→∃l',(D.set h (.box b ts'))[j]?=some (.box H l'):=by
    intro j H l Q;by_cases e:j=h
    ·subst e;rw[hb]at Q;cases Q;exact⟨ts',WN A⟩
    ·exact⟨l,by rw[WR (fun g=>e g.symm)];exact Q⟩
   cases s with
   |al j c st lo len =>obtain⟨d,z,n,a,C,F⟩:=hv;exact⟨d,z,n,a,nd j c st d z n ⟨rfl,rfl,rfl⟩ C,F⟩
   |pe j c st i off =>obtain⟨d,z,n,C,F⟩:=hv;exact⟨d,z,n,nd j c st d z n ⟨rfl,rfl,rfl⟩ C,F⟩
   |pb j off =>obtain⟨H,l,C,F⟩:=hv;obtain⟨l',R⟩:=bx _ _ _ C;exact⟨H,l',R,F⟩
   |clo f hs =>obtain⟨bs,C,F,R⟩:=hv;exact⟨bs,C,fun i h b hi hb=>by obtain⟨l,k4⟩:=F i h b hi hb;exact bx _ _ _ k4,R⟩
   |_=>exact hv
 ·intro s hs;obtain⟨u,hu⟩:=WL hs;by_cases K:u=h
  ·subst K;rw[WN A]at hu;cases hu;exact⟨B.holds,B.ownT,B.lies,by rw[B.len];exact B.free⟩
  ·rw[WR (fun g=>K g.symm)]at hu;have W:=I.mem s (WC hu);have G:=I.kind s (WC hu);refine⟨fun v hv=>(W.1 v hv).frame (fr hu hv),fun v hv ho=>?_,?_⟩
   ·have Z0:v∈an s:=by cases s<;>simp_all[rootsO,an]
    exact(W.2.1 v hv ho).frame (fr hu Z0)
   ·cases s with
    |box H l =>
     have J:H.1≠b.1:=fun g=>I.apart K hu hb (b:=b.1) (by simp[ownBl,g]) (by simp[ownBl])
     obtain⟨C,F⟩:=W.2.2;exact⟨lies J C,fun o e' lo hi g1=>by rw[B.same _ C.lt J]at g1;exact F o e' lo hi g1⟩
    |im k H l off =>
     refine lies ?_ W.2.2;intro M;cases k with
     |own=>exact G
     |far=>exact Cx.far_not G.1 (by rw[M];exact(I.box_may hb).1)
     |lent j o Z =>obtain⟨S,g1,N,g3,g4⟩:=G;rw[M]at g3;exact I.box_tree hb g1 N g3
    |fni f caps=>exact fun p hp=>lies (fun M=>Cx.far_not (G p hp).1 (by rw[M];exact(I.box_may hb).1)) (W.2.2 p hp)
    |_=>trivial
 ·intro s hs;obtain⟨u,hu⟩:=WL hs;by_cases K:u=h
  ·subst K;rw[WN A]at hu;cases hu;exact B.kind
  ·rw[WR (fun g=>K g.symm)]at hu;have L:=WC hu;have G:=I.kind s L;have cc:∀j o t,sL j o s→aw D j o=some t→t.isOwn=true→aw (D.set h (.box b ts')) j o=some t:=by
    intro j o t hn g1 N;by_cases e:j=h
    ·subst e;rw[y]at g1;rcases B.keep o t g1 N with g|⟨g,_⟩
     ·rw[q];exact g
     ·exact absurd hn (g s L)
    ·rw[m j o e];exact g1
   have kt:∀v∈rootsO s,bQ cx D v→bQ cx (D.set h (.box b ts')) v:=by
    intro v hv X;cases v with
    |v x=>trivial
    |any=>trivial
    |s k d z r =>
     cases k with
     |own=>trivial
     |far=>exact X
     |lent j o Z =>obtain⟨S,g1,N,g3⟩:=X;exact⟨S,cc j o S (.inr ⟨Z,d,z,r,hv⟩) g1 N,N,g3⟩
   cases s with
   |im k H l off =>
    cases k with
    |own=>exact G
    |far=>exact G
    |lent j o Z =>obtain⟨S,g1,N,g3⟩:=G;exact⟨S,cc j o S (.inl ⟨Z,H,l,off,rfl⟩) g1 N,N,g3⟩
   |fni f caps=>exact G
   |any=>exact fun v hv=>by simp[an]at hv
   |al=>exact fun v hv=>by simp[an]at hv
   |pe=>exact fun v hv=>by simp[an]at hv
   |pb=>exact fun v hv=>by simp[an]at hv
   |clo=>exact fun v hv=>by simp[an]at hv
   |one x=>exact fun v hv=>kt v hv (G v hv)
   |agg x=>exact fun v hv=>kt v hv (G v hv)
   |box b x=>exact fun v hv=>kt v hv (G v hv)
   |tup x=>exact fun v hv=>kt v hv (G v hv)
 ·intro x O;have:=I.bnd x (Xf O (le x));exact⟨this.1,Xf this.2 B.size⟩
 ·refine⟨B.os.trans I.frame.os,B.tape.trans I.frame.tape,B.output.trans I.frame.output,Xu I.frame.size B.size,fun x O=>?_⟩;rw[B.same x (Xf O.1 I.frame.size) (fun g=>Cx.far_not O (by rw[g];exact(I.box_may hb).1))];exact I.frame.same x O
structure Got (cx:Cx)(D:DSt)(w:World)(P:List (DT×Value))(ts:List DT)(ys:List Value):Prop where
 v:VCells ts ys
 holds:∀t∈ts,Holds w t
 own:∀t∈ts,t.isOwn=true→OwnT w t
 kind:∀t∈ts,bQ cx D t
 cnt:∀b,(ts.flatMap ownR).count b≤bc P b
section
variable  {δ β : Type}
def T.noLent:T δ→Bool| .s (.lent _ _ _) _ _ _=>false|_=>true
def cellsCopy (M:Mk δ β)(D:St δ β)(x:Operand):Option (Bool×List (T δ)):=
 match opd M.nil D x with
 |some (.one t)=>some (false,[t])
 |some (.agg ts)=>some (true,ts)
 |some (.al h c st lo len)=>
  if lo=0∨0<len then
   match db D h c st with
   |some (.s _ d z rows)=>some (false,[.s (.lent h c false) (M.win d lo z) z ((rows.drop lo).take len)])
   |_=>none
  else none
 |_=>none
def cellsTake (M:Mk δ β)(D:St δ β)(x:Operand):Option (Bool×List (T δ)×St δ β):=
 match x with
 | .tmp t =>
  match D[t]? with
  |some (.one u)=>if u.isOwn then some (false,[u],bm t D)else none
  |some (.agg ts)=>if ts.all T.noLent then some (true,ts,bm t D)else none
  |some (.al h c st lo len)=>
   if lo=0∨0<len then
    match db D h c st with
    |some (.s .own d z rows)=>(dL (fun _=>some .any) (St.dead (dv h c) (qHC h c) D) h c st).map fun D'=>(false,[.s .own (M.win d lo z) z ((rows.drop lo).take len)],D')
    |_=>none
   else none
  |_=>none
 |_=>none
def cellsOf (M:Mk δ β)(D:St δ β)(x:Operand)(tk:Bool):Option (Bool×List (T δ)×St δ β):=if tk then cellsTake M D x else(cellsCopy M D x).map fun p=>(p.1,p.2,D)
end
def cy (g:Bool)(y:Value)(ys:List Value):Prop:=if g then y = .agg ys.toArray else ys=[y]
theorem VCells.one {t:DT}(h:VT t y):VCells [t] [y]:=by
 refine⟨rfl,fun i u v hi hv=>?_⟩;cases i with
 |zero=>simp at hi hv;subst hi;subst hv;exact h
 |succ i=>simp at hi
theorem EF {lo len cap:Nat}{a:Option Addr}{rows:List (List DT)}(c:lo+len≤rows.length)(hcap:rows.length≤d.cap)(hs:d.sp=none)(hc:cap=d.cap-lo)(i:lo<d.cap→a=some ⟨d.b,d.o+lo*z,none⟩)(e:lo=0→a=if d.nil then none else some ⟨d.b,d.o,none⟩)(j:d.nil=true→rows=[])(h:lo=0∨0<len):
  VT (.s k (mkD.win d lo z) z ((rows.drop lo).take len)) (.slice a len cap):=by
 have l:((rows.drop lo).take len).length=len:=by simp;omega
 show Value.slice a len cap = .slice (mkD.win d lo z).addr _ _;rw[Dec.addr_none (d:=mkD.win d lo z) (by simpa[mkD]using hs),l,hc];simp only[mkD];congr 1;by_cases g:lo=0
 ·rw[e g,g];simp
 ·have f:lo<d.cap:=by omega
  rw[i f];have:d.nil=false:=by
   cases hd:d.nil with
   |false=>rfl
   |true=>have:=j hd;rw[this]at c;simp at c;omega
  simp only[this,W2,Xs];rw[WM (by omega)]
theorem Holds.nilrows {rows:List (List DT)}(h:Holds w (.s k d z rows))(a:d.nil=true):rows=[]:=by
 cases h with
 |e=>rfl
 |s _ _ _ _ h _=>rw[a]at h;cases h
theorem Inv.cellsCopy {s:List (DT×Value)}(I:Inv cx D s a.tmps w){x:Operand}{ts:List DT}(e:cellsCopy mkD D x=some (g,ts)):
  ∃ys,Got cx D w [] ts ys∧cy g (a.eval x) ys:=by
 unfold Am.cellsCopy at e;split at e
 ·rename_i t h;cases e;have i:=I.opd h;refine⟨[a.eval x],⟨.one i.val,fun u f=>i.mem.1 u (by simpa[an]using f),fun u f m=>i.mem.2.1 u (by simpa[rootsO]using f) m,fun u f=>i.kind u (by simpa[an]using f),fun b=>?_⟩,rfl⟩;have:=i.noown;simp only[ownBl]at this;simp[this]
 ·rename_i us h;cases e;have i:=I.opd h;obtain⟨cs,v,y⟩:=i.val;refine⟨cs.toList,⟨y,i.mem.1,i.mem.2.1,i.kind,fun b=>?_⟩,by simp[cy,v]⟩;have:=i.noown;simp only[ownBl]at this;simp[this]
 ·rename_i h c st lo len hs;split at e
  ·rename_i j;split at e
   ·rename_i k d z rows o;cases e;have i:=I.opd hs;obtain⟨J,K,n,ad,l,A,B,C,p⟩:=i.val;obtain⟨t,L,q,g1,F,g3,g4,r,G⟩:=I.node l;simp only[db,g1,Wy]at o;rw[g3]at o;cases o;refine⟨[a.eval x],⟨.one ?_,fun u f=>?_,fun u f m=>?_,fun u f=>?_,fun b=>?_⟩,rfl⟩
    ·rw[B];exact EF (by omega) r.cap G.sp rfl C p r.nilrows j
    ·simp at f;subst f;exact vv (r.win lo len (by omega))
    ·simp at f;subst f;cases m
    ·simp at f;subst f;exact⟨t,g1,F,fun x H=>xF st g3 x (by have:=Kh H;simp only[cS]at this ⊢;exact this),fun h=>by cases h⟩
    ·simp[ownR,T.isOwn]
   ·cases e
  ·cases e
 ·cases e
theorem oN {c:Nat}(y:p h c=true):∀s∈St.dead p q D,¬sL h c s∧((∀b,q h c b=true)→∀st,¬rq h c st s)∧((q h c true=true)→∀st,rq h c st s→st=[]):=by
 intro s hs;obtain⟨u,L,rfl⟩:=WU.1 hs;have A:∀(v:DT) a d z r,v.dead p ≠ .s (.lent h c a) d z r:=by
  intro v a d z r;cases v with
  |v x=>simp[T.dead]
  |any=>simp[T.dead]
  |s k M N O =>
   cases k with
   |own=>simp[T.dead]
   |far=>simp[T.dead]
   |lent m n B =>
    simp only[T.dead];by_cases e:p m n=true
    ·rw[Wz e];simp
    ·rw[WM e];intro g;cases g;exact e y
 have ts:∀(l:List DT) a d z r,(.s (.lent h c a) d z r:DT)∉l.map (T.dead p):=by intro l a d z r C;obtain⟨v,_,hv⟩:=WU.1 C;exact A v a d z r hv
 have none:∀(s:DSl),(∀k b l off,s ≠ .im k b l off)→rootsO s=[]→¬sL h c s:=by
  rintro s F G (⟨a,b,t,o,g⟩|⟨a,d,z,r,g⟩)
  ·exact F _ _ _ _ g
  ·rw[G]at g;cases g
 cases u with
 |any=>exact⟨none _ (by simp[Sl.dead]) rfl,fun _ st g=>g.elim,fun _ st g=>g.elim⟩
 |one v=>exact⟨by rintro(⟨a,b,t,o,g⟩|⟨a,d,z,r,g⟩);(· simp[Sl.dead]at g);(· exact ts [v] a d z r g),fun _ st g=>g.elim,fun _ st g=>g.elim⟩
 |agg l=>exact⟨by rintro(⟨a,b,t,o,g⟩|⟨a,d,z,r,g⟩);(· simp[Sl.dead]at g);(· exact ts l a d z r g),fun _ st g=>g.elim,fun _ st g=>g.elim⟩
 |box b l=>exact⟨by rintro(⟨a,b,t,o,g⟩|⟨a,d,z,r,g⟩);(· simp[Sl.dead]at g);(· exact ts l a d z r g),fun _ st g=>g.elim,fun _ st g=>g.elim⟩
 |tup rs =>
  refine⟨?_,fun _ st g=>g.elim,fun _ st g=>g.elim⟩;rintro(⟨a,b,t,o,g⟩|⟨a,d,z,r,g⟩)
  ·simp[Sl.dead]at g
  ·simp only[Sl.dead,rootsO,WP,WU]at g;obtain⟨p,⟨H,y,rfl⟩,g⟩:=g;exact ts H.2 a d z r (by simpa using g)
 |al m n j lo len =>
  simp only[Sl.dead];by_cases e:q m n (!j.isEmpty)=true
  ·rw[Wz e];exact⟨none _ (by simp) rfl,fun _ st g=>g.elim,fun _ st g=>g.elim⟩
  ·rw[WM e];refine⟨none _ (by simp) rfl,fun w st g=>e (by rw[g.1,g.2.1];exact w _),fun w st g=>?_⟩;rw[g.1,g.2.1]at e;rw[←g.2.2];cases j with
   |nil=>rfl
   |cons x l=>exact absurd w e
 |pe m n j i off =>
  simp only[Sl.dead];by_cases e:q m n (!j.isEmpty)=true
  ·rw[Wz e];exact⟨none _ (by simp) rfl,fun _ st g=>g.elim,fun _ st g=>g.elim⟩
  ·rw[WM e];refine⟨none _ (by simp) rfl,fun w st g=>e (by rw[g.1,g.2.1];exact w _),fun w st g=>?_⟩;rw[g.1,g.2.1]at e;rw[←g.2.2];cases j with
   |nil=>rfl
   |cons x l=>exact absurd w e
 |pb m off=>exact⟨none _ (by simp[Sl.dead]) rfl,fun _ st g=>g.elim,fun _ st g=>g.elim⟩
 |clo f I=>exact⟨none _ (by simp[Sl.dead]) rfl,fun _ st g=>g.elim,fun _ st g=>g.elim⟩
 |fni f caps=>exact⟨none _ (by simp[Sl.dead]) rfl,fun _ st g=>g.elim,fun _ st g=>g.elim⟩
 |im k b l off =>
  simp only[Sl.dead];split
  ·rename_i m n J;by_cases e:p m n=true
   ·rw[Wz e];exact⟨none _ (by simp) rfl,fun _ st g=>g.elim,fun _ st g=>g.elim⟩
   ·rw[WM e];refine⟨?_,fun _ st g=>g.elim,fun _ st g=>g.elim⟩;rintro(⟨a,b,t,o,g⟩|⟨a,d,z,r,g⟩)
    ·cases g;exact e y
    ·cases g
  ·rename_i K;refine⟨?_,fun _ st g=>g.elim,fun _ st g=>g.elim⟩;rintro(⟨a,b,t,o,g⟩|⟨a,d,z,r,g⟩)
   ·cases g;exact K _ _ _ rfl
   ·cases g
theorem t8 {c:Nat}:∀s∈St.dead (dv h c) (qHC h c) D,¬sL h c s∧∀st,¬rq h c st s:=fun s hs =>⟨(oN (p:=dv h c) (q:=qHC h c) (by simp[dv]) s hs).1,(oN (p:=dv h c) (q:=qHC h c) (by simp[dv]) s hs).2.1 (fun b=>by simp[qHC])⟩
theorem pB:∀(ts:List DT)(ys:List Value),ts.length=ys.length→∀b,bc (ts.zip ys) b=(ts.flatMap ownR).count b
 |[],_,_,b=>rfl
 |t::ts,[],h,b=>by simp at h
 |t::ts,y::ys,h,b=>by simp only[List.zip_cons_cons,lF,W1,W3];rw[pB ts ys (by simpa using h) b]
theorem HV (f:α→List Nat)(b:Nat){l l':List α}(h:l.Sublist l'):(l.flatMap f).count b≤(l'.flatMap f).count b:=by
 induction h with
 |slnil=>exact Xj _
 |cons a h c=>simp only[W1,W3];omega
 |cons_cons a h c=>simp only[W1,W3];omega
theorem uH {k':Kd}(rows:List (List DT))(l n b:Nat):(bl (.s k (mkD.win d l z) z ((rows.drop l).take n))).count b≤(bl (.s k' d z rows)).count b:=by
 rw[cS,cS,W3,W3];have c:(((rows.drop l).take n).flatMap fun x=>x.flatMap bl).count b≤(rows.flatMap fun x=>x.flatMap bl).count b:=by exact HV _ b ((List.take_sublist _ _).trans (YS _ _))
 have a:(if(mkD.win d l z).nil=true then []else [(mkD.win d l z).b])=(if d.nil=true then []else [d.b]):=rfl;rw[a];omega
theorem OwnT.win {rows:List (List DT)}(h:OwnT w (.s .own d z rows))(l n:Nat)(m:l+n≤rows.length):
  OwnT w (.s .own (mkD.win d l z) z ((rows.drop l).take n)):=by
 cases h with
 |nil _ _ f hs hc =>simp;exact .nil _ _ (by simpa[mkD]using f) (by simpa[mkD]using hs) (by simp[mkD,hc])
 |s _ _ _ h hsp c e lo hi hb hcap hroom hf hh =>
  have a:∀(i:Nat)(row:List DT),((rows.drop l).take n)[i]?=some row→rows[l+i]?=some row:=by
   intro i row hi;rw[XJ]at hi;split at hi
   ·rw[Xx]at hi;exact hi
   ·cases hi
  have g:(mkD.win d l z).o+(mkD.win d l z).cap*z≤d.o+d.cap*z∧d.o≤(mkD.win d l z).o:=by
   simp only[mkD];split
   ·rename_i hc;rw[hc];simp
   ·rw[Nat.sub_mul];have:l*z≤d.cap*z:=XN _ (by omega);omega
  refine .s _ _ _ (by simpa[mkD]using h) (by simpa[mkD]using hsp) c e lo hi (by simpa[mkD]using hb) (by simp[mkD];omega) (by omega) ?_ ?_
  ·intro x p q;exact hf x (by omega) (by omega)
  ·intro i row j t b k;exact hh _ row j t (a i row b) k
theorem Ej {c:Nat}{t:DT}(hc:aw D h c=some t):∃D',ia D h c t'=some D':=by unfold aw at hc;simp only[WA]at hc;obtain⟨cs,⟨s,hs,a⟩,_⟩:=hc;exact⟨D.set h (setCells (cs.set c t') s),by unfold ia;rw[hs];simp only[a,WB]⟩
theorem Inv.bl_once (I:Inv cx D P tm w){c:Nat}{t:DT}(hc:aw D h c=some t)(d:t.isOwn=true)(b:Nat):(bl t).count b≤1:=by
 unfold aw at hc;simp only[WA]at hc;obtain⟨cs,⟨s,hs,a⟩,e⟩:=hc;have i:=I.cells_once hs a b;have f:=bY ownR (T.any:DT) b cs c t e;have j:(ownR (T.any:DT)).count b=0:=rfl;have g:ownR t=bl t:=by simp[ownR,d]
 rw[g]at f;omega
theorem Inv.cellsTakeP {B:List (DT×Value)}(I:Inv cx D B a.tmps w){x:Operand}{ts:List DT}(e:cellsTake mkD D x=some (g,ts,D')):
  ∃ys P,Inv cx D' (P++B) a.tmps w∧Got cx D' w P ts ys∧cy g (a.eval x) ys:=by
 unfold Am.cellsTake at e;split at e
 ·rename_i t;split at e
  ·rename_i u hu;split at e
   ·rename_i X;cases e;have hv:=I.val t _ hu;have J:=I.mem _ (WC hu);have hT:=Inv.take I (P:=B) (cs:=[(u,a.tmps.getD t undef)]) hu (fun p hp=>by rw[WG]at hp;subst hp;exact⟨by simp[rootsO],by simp[an],hv⟩)
     (fun p hp h c K d z r g=>by simp at hp;subst hp;simp only at g;rw[g]at X;cases X) (fun b=>by rw[lF,cX];exact Xj _) (by simp) (by simp)
    refine⟨[a.tmps.getD t undef],_,hT,⟨.one hv,fun v f=>by simp at f;subst f;exact J.1 _ (by simp[an]),fun v f _=>by simp at f;subst f;exact J.2.1 _ (by simp[rootsO]) X,fun v f=>?_,fun b=>?_⟩,rfl⟩
    ·simp at f;subst f;cases v with
     |v x=>trivial
     |any=>trivial
     |s k d z r=>cases k<;>first|trivial|(simp[T.isOwn]at X)
    ·simp[bc]
   ·cases e
  ·rename_i us hu;split at e
   ·rename_i L;cases e;have hv:=I.val t _ hu;obtain⟨cs,Y,y⟩:=hv;have J:=I.mem _ (WC hu);have hk:=I.kind _ (WC hu);have M:∀v∈ts,∀h c K d z r,v ≠ .s (.lent h c K) d z r:=by intro v hv h c K d z r g;have:=WS.1 L v hv;rw[g]at this;simp[T.noLent]at this
    have hT:=Inv.take I (cs:=ts.zip cs.toList) hu (fun p hp=>by obtain⟨i,hi⟩:=WL hp;rw[Yy]at hi;exact⟨WC hi.1,WC hi.1,y.2 i _ _ hi.1 hi.2⟩)
     (fun p hp=>M p.1 (List.of_mem_zip hp).1) (fun b=>by rw[pB _ _ y.1];exact Xj _) (by simp) (by simp)
    refine⟨cs.toList,_,hT,⟨y,J.1,J.2.1,fun v hv=>?_,fun b=>?_⟩,by simp only[cy,W8];exact Y⟩
    ·have Z0:=hk v hv;have:=M v hv;cases v with
     |v x=>trivial
     |any=>trivial
     |s k d z r =>
      cases k with
      |own=>trivial
      |far=>exact Z0
      |lent h c K=>exact absurd rfl (this h c K d z r)
    ·rw[pB _ _ y.1];exact Xj _
   ·cases e
  ·rename_i h c st lo len hu;split at e
   ·rename_i j;split at e
    ·rename_i d z rows hn;rw[WD]at e;obtain⟨D2,C,e⟩:=e;cases e;have hv:=I.val t _ hu;obtain⟨d',z',n,ad,F,Z6,Y,ha,O⟩:=hv;obtain⟨t0,k1,Z1,g1,A,g3,g4,H,Z⟩:=I.node F;simp only[db,g1,Wy]at hn;rw[g3]at hn;cases hn;have I1:=I.dead (dv h c) (qHC h c);have Q:=iR (p:=dv h c) (q:=qHC h c) g1 A;unfold dL at C;rw[Q,Wy,WA]at C;obtain⟨t',G,R⟩:=C;obtain⟨s0,Z7,l,Z2,S,U⟩:=cj g1;have V:=I.mem s0 l;have hN:NodeOk w w (.s .own d z rows) (.any:DT):=⟨.any,.any,fun _ h=>h.one,fun _ _ _=>rfl⟩
     obtain⟨N,hc,Z3,_⟩:=HJ hN rfl st (V.1 t0 Z2) (V.2.1 t0 S A) (I.bl_once g1 A) g3 G;have m:t'.isOwn=true∨t' = .any:=by
      cases st with
      |nil=>right;cases g3;simp[gN]at G;exact G.symm
      |cons p st=>left;exact(Z3 (by simp)).1
     have W:∀b,(ownR t').count b+(bl (.s .own d z rows)).count b≤(ownR t0).count b:=by
      intro b;have h1:=hc b;have h0:(bl (.any:DT)).count b=0:=rfl;have h2:ownR t0=bl t0:=by simp[ownR,A]
      rw[h2];rcases m with h3|h3
      ·have:ownR t'=bl t':=by simp[ownR,h3]
       rw[this];omega
      ·subst h3;have:(ownR (.any:DT)).count b=0:=rfl;omega
     have IU:=I1.upd (P':=(.s .own (mkD.win d lo z) z ((rows.drop lo).take len),a.tmps.getD t undef)::B) (w':=w) R
      {at_:=Q,own:=A,holds:=N.holds,ownT:=fun _=>N.own,kind:=m,val:=N.val,
       cnt:=fun b=>by
        rw[lF];have h1:=W b;have h2:=uH (k := .own) (k' := .own) (d:=d) (z:=z) rows lo len b;have h3:ownR (.s .own (mkD.win d lo z) z ((rows.drop lo).take len):DT)=bl (.s .own (mkD.win d lo z) z ((rows.drop lo).take len)):=by simp[ownR,T.isOwn]
        rw[h3];split
        ·omega
        ·rename_i Z4;have hz:¬ 0<bF D b+bc B b:=fun q=>Z4 (I.bnd b q).2
         have h7:(ownR t0).count b=0:=by
          rcases Xt ((ownR t0).count b)with q|q
          ·exact q
          ·have h5:ownR t0=bl t0:=by simp[ownR,A]
           rw[h5]at q;have:=cQ l (b:=b) (U A b (WW.1 q));omega
         show(ownR t').count b+((bl (.s .own (mkD.win d lo z) z ((rows.drop lo).take len):DT)).count b+bc B b)≤1;omega,
       new:=fun b hb o=>by
        exfalso;rw[lF]at o;have hz:¬ 0<bF D b+bc B b:=fun q=>by have:=(I.bnd b q).2;omega
        have h1:=W b;have h2:=uH (k := .own) (k' := .own) (d:=d) (z:=z) rows lo len b;have h3:ownR (.s .own (mkD.win d lo z) z ((rows.drop lo).take len):DT)=bl (.s .own (mkD.win d lo z) z ((rows.drop lo).take len)):=by simp[ownR,T.isOwn]
        rw[h3]at o;have Z5:0<(ownR t').count b+((bl (.s .own (mkD.win d lo z) z ((rows.drop lo).take len):DT)).count b+bc B b):=o;have h6:0<(ownR t0).count b:=by omega
        have h7:=cQ l (b:=b) (U A b (by have h5:ownR t0=bl t0:=(by simp[ownR,A]);rw[h5]at h6;exact WW.1 h6));have:=(I.bnd b (by omega)).2;omega,
       hides:=fun s hs=>(t8 s hs).1,
       speak:=fun s hs st hsp=>absurd hsp ((t8 s hs).2 st),
       size:=Xj _,same:=fun _ _ _=>rfl,os:=rfl,tape:=rfl,output:=rfl,
       pend:=fun p hp=>by
        rcases WZ.1 hp with hp|hp
        case inr=>exact I.pend p hp
        subst hp;refine⟨?_,H.win lo len (by omega),fun _=>Z.win lo len (by omega),fun h=>by cases h⟩;show VT _ (a.tmps.getD t undef);rw[Y];exact EF (by omega) H.cap Z.sp rfl ha O H.nilrows j }
     refine⟨[a.tmps.getD t undef],[(.s .own (mkD.win d lo z) z ((rows.drop lo).take len),a.tmps.getD t undef)],IU,⟨.one ?_,fun v hv=>?_,fun v hv _=>?_,fun v hv=>?_,fun b=>?_⟩,rfl⟩
     ·rw[Y];exact EF (by omega) H.cap Z.sp rfl ha O H.nilrows j
     ·simp at hv;subst hv;exact H.win lo len (by omega)
     ·simp at hv;subst hv;exact Z.win lo len (by omega)
     ·simp at hv;subst hv;trivial
     ·simp[bc]
    ·cases e
   ·cases e
  ·cases e
 ·cases e
theorem Inv.cellsTake (I:Inv cx D [] a.tmps w){x:Operand}{ts:List DT}(e:cellsTake mkD D x=some (g,ts,D')):
  ∃ys P,Inv cx D' P a.tmps w∧Got cx D' w P ts ys∧cy g (a.eval x) ys:=by
 obtain⟨ys,P,b,c,d⟩:=I.cellsTakeP e;rw[WX]at b;exact⟨ys,P,b,c,d⟩
section
variable  {δ β : Type}
def jm:Bool→List (T δ)→Option (Sl δ β)|true,ts=>some (.agg ts)|false,[t]=>some (.one t)|false,_=>none
end
theorem Got.grew {ts:List DT}(h:Got cx D w P ts ys)(g:Grew w w'):Got cx D w' P ts ys :=
 ⟨h.v,fun t a=>(h.holds t a).frame fun b _ hb=>g.same b hb,fun t a c=>(h.own t a c).frame fun b _ hb=>g.same b hb,h.kind,h.cnt⟩
theorem Sq {ts:List DT}{s:DSl}(G:Got cx D w P ts ys)(hv:cy g y ys)(hs:jm g ts=some s):
  VS D s y∧MemS w s∧fa cx D s∧∀b,(ownBl s).count b≤bc P b:=by
 unfold jm at hs;split at hs
 ·cases hs;refine⟨⟨ys.toArray,by simpa[cy]using hv,by simpa using G.v⟩,⟨G.holds,G.own,trivial⟩,G.kind,G.cnt⟩
 ·rename_i t;cases hs;have c:ys=[y]:=by simpa[cy]using hv
  subst c;refine⟨G.v.2 0 t y rfl rfl,⟨fun u a=>G.holds u (by simpa[an]using a),fun u a=>G.own u (by simpa[rootsO]using a),trivial⟩,fun u a=>G.kind u (by simpa[an]using a),fun b=>?_⟩;have:=G.cnt b;simpa[ownBl]using this
 ·cases hs
theorem Inv.putGot (I:Inv cx D P a.tmps w){ts:List DT}{s:DSl}(G:Got cx D w P ts ys)(hv:cy g y ys)(hs:jm g ts=some s){dst:Option Nat}(b:∀t,dst=some t→t<D.length)(hd:dst.isSome=true):Inv cx (bj D dst s) [] (a.put dst y).tmps w:=by
 obtain⟨c,d,e,f⟩:=Sq G hv hs;cases dst with
 |none=>cases hd
 |some t=>exact Inv.put (P:=P) (Q:=[]) (by rw[WX];exact I) (b t rfl) c d e f
theorem Inv.fresh (I:Inv cx D P tm w)(hs:w.heap.size<w'.heap.size):
  ∀b,0<(if b=w.heap.size then 1 else 0)→(if b=w.heap.size then 1 else 0)≤1∧bF D b+bc P b=0∧cx.may b∧b<w'.heap.size:=by
 intro b hb;split at hb
 ·rename_i e;subst e;refine⟨by simp,?_,.inl I.frame.size,hs⟩;rcases Xt (bF D w.heap.size+bc P w.heap.size)with g|g
  ·exact g
  ·have:=(I.bnd _ g).2;omega
 ·cases hb
theorem Inv.newBox (I:Inv cx D P a.tmps w){ts:List DT}(G:Got cx D w P ts ys)(e:TypeId)(k:t<D.length):Inv cx (bj D (some t) (.box (w.heap.size,0) ts)) [] (a.put (some t) (.pointer (some ⟨w.heap.size,0,none⟩))).tmps (w.alloc (.cells ys.toArray e)):=by
 have g:=Grew.alloc w (.cells ys.toArray e);have l:=I.grew g;have d:(w.alloc (.cells ys.toArray e)).heap[w.heap.size]?=some (.cells ys.toArray e (0,0)):=by show(w.heap.push _)[w.heap.size]?=_;simp
 refine Inv.putF (P:=P) (Q:=[]) (by rw[WX];exact l) (fun b=>if b=w.heap.size then 1 else 0)
  (by rw[WX];exact I.fresh (by simp)) k rfl ⟨(G.grew g).holds,(G.grew g).own,?_⟩ (G.kind) ?_
 ·refine⟨⟨ys.toArray,e,(0,0),d,fun j u i=>?_⟩,fun c m lo hi hc x n o=>?_⟩
  ·have f:j<ys.length:=by
    rw[←G.v.1];rcases WI j ts.length with g|g
    ·exact g
    ·rw[WF g]at i;cases i
   exact⟨ys[j],by simp[f],G.v.2 j u _ i (WE f)⟩
  ·simp only at hc;rw[d]at hc;cases hc;omega
 ·intro b;have:=G.cnt b;simp only[ownBl,XL];split<;>rename_i hb
  ·simp at hb;subst hb;simp;omega
  ·have:¬b=w.heap.size:=fun h=>hb (by simp[h])
   simp[this];omega
theorem Inv.newRows {cx:Cx}{D:DSt}{P:List (DT×Value)}{a:Act}{w w':World}(I:Inv cx D P a.tmps w)(g:Grew w w')(hs:w.heap.size<w'.heap.size){d:Dec}{z:Nat}{rows:List (List DT)}
  (hd:d.b=w.heap.size∧d.nil=false) (e:Holds w' (.s .own d z rows)) (f:OwnT w' (.s .own d z rows))
  (hc:∀b,(rows.flatMap fun x=>x.flatMap bl).count b≤bc P b) {t:Nat} (i:t<D.length) {y:Value} (j:VT (.s .own d z rows) y):
  Inv cx (bj D (some t) (.one (.s .own d z rows))) [] (a.put (some t) y).tmps w':=by
 refine Inv.putF (P:=P) (Q:=[]) (by rw[WX];exact I.grew g) (fun b=>if b=w.heap.size then 1 else 0)
  (by rw[WX];exact I.fresh hs) i j ⟨fun u c=>by simp[an]at c;subst c;exact e,fun u c _=>by simp[rootsO]at c;subst c;exact f,trivial⟩
  (fun u c=>by simp[an]at c;subst c;trivial) ?_
 intro b;have l:=hc b;have k:ownBl (.one (.s .own d z rows):DSl)=d.b::rows.flatMap fun x=>x.flatMap bl:=by simp[ownBl,ownR,T.isOwn,cS,hd.2]
 rw[k,XL];split<;>rename_i hb
 ·simp at hb;subst hb;rw[hd.1]at *;simp;omega
 ·have:¬b=w.heap.size:=fun h=>hb (by rw[hd.1,h];simp)
  simp[this];omega
section
variable  {δ β : Type}
def T.inj (nil:δ):T Unit→T δ| .v x=>.v x| .any=>.any| .s k _ z _=>.s k nil z []
def au (l:List α)(o:Nat)(new:List α):List α:=l.take o++new++l.drop (o+new.length)
end
theorem eV {l:List α}{o:Nat}{new:List α}(h:o+new.length≤l.length)(i:Nat):
  (au l o new)[i]?=if i<o then l[i]? else if i<o+new.length then new[i-o]? else l[i]?:=by
 unfold au;have b:(l.take o).length=o:=by simp;omega
 by_cases hi:i<o
 ·rw[Wz hi,XU,Xr (by omega),XJ,Wz hi]
 ·rw[WM hi,XU,Xp (by omega),b];by_cases a:i<o+new.length
  ·rw[Wz a,Xr (by omega)]
  ·rw[WM a,Xp (by omega),Xx];congr 1;omega
theorem mb {l:List α}{o:Nat}{new:List α}(h:o+new.length≤l.length):(au l o new).length=l.length:=by unfold au;simp;omega
theorem VCells.splice {ts ts':List DT}{b:List Value}(h:VCells ts ys)(e:VCells ts' b){o:Nat}(f:o+ts'.length≤ts.length):VCells (au ts o ts') (au ys o b):=by
 have g:=h.1;have j:=e.1;refine⟨by rw[mb f,mb (by omega)];exact g,fun i t y hi a=>?_⟩;rw[eV f]at hi;rw[eV (by omega)]at a;rw[←j]at a;split at hi
 ·rename_i c;rw[Wz c]at a;exact h.2 i t y hi a
 ·rename_i c;rw[WM c]at a;split at hi
  ·rename_i d;rw[Wz d]at a;exact e.2 _ t y hi a
  ·rename_i d;rw[WM d]at a;exact h.2 i t y hi a
theorem iv {l new:List α}{o:Nat}{x:α}(h:x∈au l o new):x∈l∨x∈new:=by
 unfold au at h;simp only[W5]at h;rcases h with(h|h)|h
 ·exact .inl (Yb h)
 ·exact .inr h
 ·exact .inl (XM h)
theorem qv (f:α→List Nat)(l new:List α)(o b:Nat):((au l o new).flatMap f).count b≤(l.flatMap f).count b+(new.flatMap f).count b:=by
 unfold au;simp only[XR,W3];have h:((l.take o).flatMap f).count b+((l.drop (o+new.length)).flatMap f).count b≤(l.flatMap f).count b:=by
  have a:=HV f b (l:=l.take o++l.drop (o+new.length)) (l':=l) (by
   conv=>rhs;rw[←List.take_append_drop o l]
   refine List.Sublist.append_left ?_ _;rw[←List.drop_drop];exact YS _ _)
  simpa[XR,W3]using a
 omega
theorem H5:∀(a:List Value)(k:Nat)(off:Nat)(cells:Array Value),off+k+a.length≤cells.size →
  ((a.zipIdx k).foldl (fun(cs:Array Value)(p:Value×Nat)=>cs.setIfInBounds (off+p.2) p.1) cells).toList=au cells.toList (off+k) a
 |[],k,off,cells,h=>by simp[au]
 |v::a,k,off,cells,h=>by
  simp only[List.zipIdx_cons,X3];simp only[W4]at h;rw[H5 a (k+1) off _ (by simp;omega)];apply XT;intro i;rw[eV (by simp;omega),eV (by simp;omega)];simp only[Zj,W4];by_cases b:i<off+k
  ·rw[Wz (show i<off+(k+1) by omega),Wz b,WR (by omega)]
  ·by_cases d:i=off+k
   ·subst d;rw[Wz (show off+k<off+(k+1) by omega),WM b,Wz (show off+k<off+k+(a.length+1) by omega),
     WN (by simp;omega)]
    simp
   ·by_cases c:i<off+k+(a.length+1)
    ·rw[WM (show ¬i<off+(k+1) by omega),Wz (show i<off+(k+1)+a.length by omega),WM b,Wz c];obtain⟨j,e⟩:∃j,i-(off+k)=j+1:=⟨i-(off+k)-1,by omega⟩
     rw[e,Yp];congr 1;omega
    ·rw[WM (show ¬i<off+(k+1) by omega),WM (show ¬i<off+(k+1)+a.length by omega),WM b,WM c,WR (by omega)]
theorem iS (v:Array Value)(off:Nat)(cells:Array Value)(h:off+v.size≤cells.size):
  (v.zipIdx.foldl (fun(cs:Array Value)(p:Value×Nat)=>cs.setIfInBounds (off+p.2) p.1) cells)=(au cells.toList off v.toList).toArray:=by
 have:=H5 v.toList 0 off cells (by simpa using h);apply Array.ext';rw[←Array.foldl_toList,Array.toList_zipIdx,this];simp
theorem lW {P:Program}{t:TypeId}(h:ys.all (·.oneCell')=true):Got cx D w [] ((en P t ys).map (T.inj nilD)) ys:=by
 have one:∀n y,y.oneCell'=true→VT ((zT n y).inj nilD) y∧Holds w ((zT n y).inj nilD)∧OwnT w ((zT n y).inj nilD)∧bQ cx D ((zT n y).inj nilD)∧bl ((zT n y).inj nilD)=[]:=by
  intro n y hy;unfold zT;split
  ·exact⟨rfl,.e _ _ _,.nil _ _ rfl rfl rfl,trivial,by simp[T.inj,cS,nilD]⟩
  ·exact⟨⟨rfl,hy⟩,.v _,.v _,trivial,rfl⟩
 have all:∀u∈(en P t ys).map (T.inj nilD),∃n,∃y∈ys,u=(zT n y).inj nilD:=by intro u a;simp only[WU,en,XK]at a;obtain⟨u',⟨j,c,rfl⟩,rfl⟩:=a;exact⟨_,ys[j],XW c,rfl⟩
 rw[WS]at h;refine⟨⟨by simp[en],fun i u y hi hy=>?_⟩,fun u a=>?_,fun u a _=>?_,fun u a=>?_,fun b=>?_⟩
 ·simp only[en,WQ,Yi,hy,WB,Xd]at hi;subst hi;exact(one _ y (h y (WC hy))).1
 ·obtain⟨n,y,hy,rfl⟩:=all u a;exact(one n y (h y hy)).2.1
 ·obtain⟨n,y,hy,rfl⟩:=all u a;exact(one n y (h y hy)).2.2.1
 ·obtain⟨n,y,hy,rfl⟩:=all u a;exact(one n y (h y hy)).2.2.2.1
 ·have:((en P t ys).map (T.inj nilD)).flatMap ownR=[]:=by rw[WY];intro u a;obtain⟨n,y,hy,rfl⟩:=all u a;have:=(one n y (h y hy)).2.2.2.2;unfold ownR;split<;>simp[this]
  rw[this];simp
theorem ls (b:Nat)(e:TypeId)(f:Nat×Nat):∀(a:List Value)(o:Nat)(w:World)(c:Array Value),w.heap[b]?=some (.cells c e f)→o+a.length≤c.size →
  (w.setCells b o a).heap[b]?=some (.cells (au c.toList o a).toArray e f)∧(∀x,x≠b→(w.setCells b o a).heap[x]?=w.heap[x]?) ∧
   (w.setCells b o a).heap.size=w.heap.size∧(w.setCells b o a).os=w.os∧(w.setCells b o a).tape=w.tape∧(w.setCells b o a).output=w.output
 |[],o,w,c,h,g=>by refine⟨?_,fun _ _=>rfl,rfl,rfl,rfl,rfl⟩;rw[show w.setCells b o []=w from rfl,h];simp[au]
 |v::a,o,w,c,h,g=>by
  simp only[W4]at g;have d:(w.setCell ⟨b,o,none⟩ v).heap[b]?=some (.cells (c.setIfInBounds o v) e f):=by simp[World.setCell,Y3,h]
  obtain⟨g1,m,g3,g4,n,p⟩:=ls b e f a (o+1) _ _ d (by simp;omega);have hs:w.setCells b o (v::a)=(w.setCell ⟨b,o,none⟩ v).setCells b (o+1) a:=rfl;rw[hs];refine⟨?_,fun x k=>?_,by rw[g3];simp[World.setCell],g4,n,p⟩
  ·rw[g1];congr 2;apply Array.ext';simp only[Zj];apply XT;intro i;rw[eV (by simp;omega),eV (by simp;omega)];simp only[W4];by_cases d:i<o
   ·rw[Wz (show i<o+1 by omega),Wz d,WR (by omega)]
   ·by_cases q:i=o
    ·subst q;rw[Wz (show i<i+1 by omega),WM d,Wz (show i<i+(a.length+1) by omega),WN (by simp;omega)];simp
    ·by_cases l:i<o+(a.length+1)
     ·rw[WM (show ¬i<o+1 by omega),Wz (show i<o+1+a.length by omega),WM d,Wz l];obtain⟨j,r⟩:∃j,i-o=j+1:=⟨i-o-1,by omega⟩
      rw[r,Yp];congr 1;omega
     ·rw[WM (show ¬i<o+1 by omega),WM (show ¬i<o+1+a.length by omega),WM d,WM l,WR (by omega)]
  ·rw[m x k];simp only[World.setCell,Y3];rw[WM (by simpa using fun h=>k h.symm)]
theorem FL {P:Program}{b o:Nat}{c:Array Value}{e:TypeId}{lo hi:Nat}(h:w.heap[b]?=some (.cells c e (lo,hi)))(i:o+ys.length≤c.size)(hf:∀x,o≤x→x<o+ys.length→¬(lo≤x∧x<hi))(a:∀v∈ys,v.oneCell'=true):(storeCells ⟨b,o,none⟩ ys).run P w = .ok () (w.setCells b o ys):=by
 have:=run_storeCells_cells (P:=P) b o ys 0 w (fun j d=>by rw[ux h];simp;omega) (fun j d=>by
  simp only[World.frozen?,h,Nat.add_zero];have:=hf (o+j) (by omega) (by omega);simp only[Bool.and_eq_false_iff,YR];rcases WI (o+j) lo with g|g
  ·left;omega
  ·right;intro f;exact this ⟨g,f⟩) a
 simpa using this
theorem VCells.cells1 {ts:List DT}(h:VCells ts ys):∀v∈ys,v.oneCell'=true:=by
 intro v hv;obtain⟨i,hi⟩:=WL hv;have a:i<ts.length:=by
  rw[h.1];rcases WI i ys.length with g|g
  ·exact g
  ·rw[WF g]at hi;cases hi
 exact(h.2 i _ v (WE a) hi).one
theorem Dq {P:Program}{t:TypeId}{ti:TI}(a:nu P t=some ti){b o:Nat}{c:Array Value}{e:TypeId}{lo hi:Nat}(h:w.heap[b]?=some (.cells c e (lo,hi)))(hv:cy g y ys)(d:g=false→y.oneCell'=true)(f:ys.length=ti.size)(i:o+ys.length≤c.size)(hf:∀x,o≤x→x<o+ys.length→¬(lo≤x∧x<hi))(j:∀v∈ys,v.oneCell'=true):
  (Instr.storeAt t (.pointer (some ⟨b,o,none⟩)) y).run P w = .ok () (w.setCells b o ys):=by
 have hc:y.cells=ys.toArray:=by
  cases g with
  |true=>simp only[cy,W8]at hv;rw[hv];rfl
  |false =>simp only[cy,W2,Xs]at hv;subst hv;have:=d rfl;cases y<;>first|rfl|(simp[Value.oneCell']at this)
 have k:=FL (P:=P) h i hf j;simp only[Instr.storeAt,Instr.sureAddr,storeVar,Sem.run_bind,Sem.run_pure,Result.andThen_ok,hc,mC a];simp[f,k]
section
open Go.ChangeShapes Go.Deep
mutual
inductive Ty where|bool|int (k:IntKind)|str|slice (e:Ty)|struct (fs:Fs)
inductive Fs where|nil|cons (t:Ty) (r:Fs)
end
mutual
def Ty.size:Ty→Nat| .struct fs=>fs.size|_=>1
def Fs.size:Fs→Nat| .nil=>0| .cons t r=>t.size+r.size
end
mutual
def Ty.ok (P:Program):Ty→TypeId→Bool
 | .bool,t=>match P.underlying t with|some .bool=>true|_=>false
 | .int k,t=>match P.underlying t with|some (.int k')=>decide (k'=k)|_=>false
 | .str,t=>match P.underlying t with|some .string=>true|_=>false
 | .slice e,t=>match P.underlying t with|some (.slice u)=>Ty.ok P e u&&P.cellsOf u==e.size&&e.size != 0|_=>false
 | .struct fs,t=>match P.underlying t with|some (.struct a)=>Fs.ok P fs a.toList 0&&P.cellsOf t==fs.size|_=>false
def Fs.ok (P:Program):Fs→List Field→Nat→Bool| .nil,[],_=>true| .cons t r,f::fs,off=>f.offset==off&&P.cellsOf f.type==t.size&&Ty.ok P t f.type&&Fs.ok P r fs (off+t.size)|_,_,_=>false
end
mutual
def Shape {δ:Type}:Ty→List (T δ)→Prop| .bool,ts=>∃b,ts=[.v (.bool b)]| .int k,ts=>∃n,ts=[.v (.int k n)]∧(Lit.int k n).wf=true| .str,ts=>∃s,ts=[.v (.string s)]∧s.size≤maxLen| .slice e,ts=>∃d rows,ts=[.s .far d e.size rows]∧rows.length≤maxLen∧∀r∈rows,Shape e r| .struct fs,ts=>ShapeF fs ts
def ShapeF {δ:Type}:Fs→List (T δ)→Prop| .nil,ts=>ts=[]| .cons t r,ts=>∃xs ys,ts=xs++ys∧Shape t xs∧ShapeF r ys
end
structure Reads (w:World)(ts:List DT)(cs:List Value):Prop where
 cells:VCells ts cs
 holds:∀u∈ts,Holds w u
 far:∀u∈ts,u.isOwn=false∧∀b∈bl u,b<w.heap.size
theorem Reads.nil (w:World):Reads w [] []:=⟨⟨rfl,fun i t y h=>by simp at h⟩,fun u h=>by simp at h,fun u h=>by simp at h⟩
theorem Reads.append {ts:List DT}{cs b:List Value}(h:Reads w ts cs)(g:Reads w us b):Reads w (ts++us) (cs++b):=by
 refine⟨⟨by simp[h.cells.1,g.cells.1],fun i t y hi a=>?_⟩,fun u hu=>?_,fun u hu=>?_⟩
 ·rcases WI i ts.length with hl|hl
  ·rw[Xr hl]at hi;rw[Xr (by rw[←h.cells.1];exact hl)]at a;exact h.cells.2 i t y hi a
  ·rw[Xp hl]at hi;rw[Xp (by rw[←h.cells.1];exact hl), ←h.cells.1]at a;exact g.cells.2 _ t y hi a
 ·rcases W5.1 hu with hu|hu
  ·exact h.holds u hu
  ·exact g.holds u hu
 ·rcases W5.1 hu with hu|hu
  ·exact h.far u hu
  ·exact g.far u hu
theorem Reads.one {t:DT}(h:VT t y)(hh:Holds w t)(c:t.isOwn=false)(hb:∀b∈bl t,b<w.heap.size):Reads w [t] [y]:=
 ⟨.one h,fun u a=>by simp at a;subst a;exact hh,fun u a=>by simp at a;subst a;exact⟨c,hb⟩⟩
theorem Reads.val {x:Value}(h:x.oneCell'=true):Reads w [.v x] [x]:= .one ⟨rfl,h⟩ (.v x) rfl (fun b hb=>by simp[bl]at hb)
section
variable  {H : Type}{enc : TypeId × Value → H}{P : Program}{w : World}
mutual
theorem Ty.open:∀(ty:Ty)(n:Nat)(t:TypeId)(cs:List Value)(x:DataW H×List MemPlace),Ty.ok P ty t=true→DataW.trod enc P w 0 (fun _=>true) true n t cs=some x →
  ∃ts,Reads w ts cs∧Shape ty ts∧cs.length=ty.size
 | .bool,0,t,cs,x,d,h=>by simp[DataW.trod]at h
 | .bool,n+1,t,cs,x,d,h=>by
  unfold Ty.ok at d;split at d<;>try cases d
  rename_i p;unfold DataW.trod at h;rw[p]at h;split at h<;>simp_all;rename_i b;exact⟨[.v (.bool b)],.val rfl,⟨b,rfl⟩,rfl⟩
 | .int k,0,t,cs,x,d,h=>by simp[DataW.trod]at h
 | .int k,n+1,t,cs,x,d,h=>by
  unfold Ty.ok at d;split at d<;>try cases d
  rename_i k' p;simp at d;subst d;unfold DataW.trod at h;rw[p]at h;split at h<;>simp_all;rename_i k0 _ m _;exact⟨[.v (.int k0 m)],.val rfl,⟨m,rfl,h.1.2⟩,rfl⟩
 | .str,0,t,cs,x,d,h=>by simp[DataW.trod]at h
 | .str,n+1,t,cs,x,d,h=>by
  unfold Ty.ok at d;split at d<;>try cases d
  rename_i p;unfold DataW.trod at h;rw[p]at h;split at h<;>simp_all;rename_i s;exact⟨[.v (.string s)],.val rfl,⟨s,rfl,h.1⟩,rfl⟩
 | .slice e,n,t,cs,x,d,h=>by
  unfold Ty.ok at d;split at d<;>try cases d
  rename_i u p;simp only[W0,Yc,Zy,ne_eq]at d;obtain⟨⟨d,hc⟩,hz⟩:=d;rcases open_slice p h with⟨rfl,_⟩|⟨a,len,cap,m,n',D,Pl,rfl,_,N,hm,F,_,hx⟩
  ·refine⟨[.s .far ⟨0,0,0,true,none⟩ e.size []],.one (by rfl) (.e _ _ _) rfl (fun b hb=>by simp[cS]at hb),⟨_,[],rfl,by simp,fun r G=>by simp at G⟩,rfl⟩
  ·simp only[W8]at F;subst F;have O:∀i,i<len→∃row,(∃A,w.cells? 0 (a.add (i*e.size)) e.size=some A∧Reads w row A)∧Shape e row∧row.length=e.size:=by intro i hi;obtain⟨A,B,I⟩:=hx i (by omega);obtain⟨row,Z,h4,h5⟩:=Ty.open e n' u A _ d I;exact⟨row,⟨A,by rw[←hc];exact B,Z⟩,h4,by rw[Z.cells.1,h5]⟩
   obtain⟨R,C⟩:=choose_lt O;by_cases h0:len=0
   ·subst h0;exact⟨[.s .far ⟨0,0,m,true,some a⟩ e.size []],.one rfl (.e _ _ _) rfl (fun b hb=>by simp[cS]at hb),⟨_,_,rfl,by simp,fun r G=>by simp at G⟩,rfl⟩
   have l:∀(i:Nat)(row:List DT),((List.range len).map R)[i]?=some row→i<len∧row=R i:=by
    intro i row hi;rcases WI i len with g|g
    ·rw[WQ,XS g]at hi;cases hi;exact⟨g,rfl⟩
    ·rw[WF (by simpa using g)]at hi;cases hi
   obtain⟨⟨Z1,v0,r0⟩,s0,l0⟩:=C 0 (by omega);obtain⟨_,Q,y⟩:=World.cells?_some v0;have o:=y 0 (by omega);have S:(a.add (0*e.size)).add 0=a:=by simp[Addr.add]
   rw[S,WE (by omega)]at o;unfold World.cell? at o;split at o
   case h_2=>cases o
   rename_i c e' f hb;split at o
   ·cases o
   rename_i hsp;have Z0:a.spot=none:=by simpa using hsp
   have J:∀k,a.add k=⟨a.block,a.off+k,none⟩:=by
    intro k;unfold Addr.add;split
    ·rename_i U;subst U;cases a;simp_all
    ·rfl
   refine⟨[.s .far ⟨a.block,a.off,m,false,none⟩ e.size ((List.range len).map R)],.one ?_ ?_ rfl ?_,⟨_,_,rfl,by simp;omega,?_⟩,rfl⟩
   ·have:a=⟨a.block,a.off,none⟩:=by cases a;simp_all
    simp only[VT,Dec.addr,W6,Zm,W2,Xs];rw[←this]
   ·refine .s _ _ _ _ rfl rfl c e' f hb (by simp;omega) (fun i row hi=>?_) (fun i row j u hi hj=>?_) (fun i row j u hi hj=>?_)
    ·obtain⟨g,rfl⟩:=l i row hi;exact(C i g).2.2
    ·obtain⟨g,rfl⟩:=l i row hi;obtain⟨⟨A,v1,K⟩,s1,l1⟩:=C i g;obtain⟨_,V,z⟩:=World.cells?_some v1;have W:j<e.size:=by
      rcases WI j (R i).length with q|q
      ·omega
      ·rw[WF q]at hj;cases hj
     have B:=z j W;rw[WE (by omega),J]at B;have I:=K.cells.2 j u _ hj (WE (by omega));refine⟨_,?_,I⟩;have e1:Addr.add ⟨a.block,a.off+i*e.size,none⟩ j=⟨a.block,a.off+i*e.size+j,none⟩:=by
      unfold Addr.add;split
      ·rename_i U;subst U;rfl
      ·rfl
     rw[e1,ux hb]at B;exact B
    ·obtain⟨g,rfl⟩:=l i row hi;obtain⟨A,v1,K⟩:=(C i g).1;exact K.holds u (WC hj)
   ·intro b v;rw[cS]at v;simp only[W2,Xs,W5,WG,WP]at v;rcases v with rfl|⟨row,L,u,p,v⟩
    ·exact d8 hb
    ·obtain⟨i,hi⟩:=WL L;obtain⟨g,rfl⟩:=l i row hi;obtain⟨A,v1,K⟩:=(C i g).1;exact(K.far u p).2 b v
   ·intro r G;obtain⟨i,hi⟩:=WL G;obtain⟨g,rfl⟩:=l i r hi;exact(C i g).2.1
 | .struct fs,n,t,cs,x,d,h=>by
  unfold Ty.ok at d;split at d<;>try cases d
  rename_i a p;simp only[W0,Yc]at d;obtain⟨d,hc⟩:=d;obtain⟨xs,n',_,rfl,N,M,hf⟩:=DataW.trod_struct p h;obtain⟨ts,B,I⟩:=Fs.open fs a.toList 0 n' cs d (by rw[N,hc];omega) (fun f X=>by
   obtain⟨i,hi⟩:=WL X;have:=hf i f (by simpa using hi);have Y:i<xs.length:=by
    rw[M];rcases WI i a.size with g|g
    ·exact g
    ·rw[WF (by simpa using g)]at hi;cases hi
   rw[WE Y]at this;exact⟨_,this⟩)
  exact⟨ts,by simpa using B,I,by rw[N,hc];rfl⟩
theorem Fs.open:∀(fs:Fs)(a:List Field)(off n:Nat)(cs:List Value),Fs.ok P fs a off=true→cs.length=off+fs.size →
  (∀f∈a,∃y,DataW.trod enc P w 0 (fun _=>true) true n f.type ((cs.drop f.offset).take (P.cellsOf f.type))=some y)→∃ts,Reads w ts (cs.drop off)∧ShapeF fs ts
 | .nil,[],off,n,cs,b,c,h=>⟨[],by rw[Xn (by simp[Fs.size]at c;omega)];exact .nil w,rfl⟩
 | .nil,_::_,off,n,cs,b,c,h=>by simp[Fs.ok]at b
 | .cons t r,[],off,n,cs,b,c,h=>by simp[Fs.ok]at b
 | .cons t r,f::a,off,n,cs,b,c,h=>by
  simp only[Fs.ok,W0,Yc]at b;obtain⟨⟨⟨d,hc⟩,i⟩,j⟩:=b;simp only[Fs.size]at c;obtain⟨y,e⟩:=h f (by simp);rw[d,hc]at e;obtain⟨xs,k,l,q⟩:=Ty.open t n f.type _ y i e;obtain⟨ys,m,o⟩:=Fs.open r a (off+t.size) n cs j (by omega) (fun g p=>h g (by simp[p]));refine⟨xs++ys,?_,xs,ys,rfl,l,o⟩;have:cs.drop off=(cs.drop off).take t.size++cs.drop (off+t.size):=by rw[←List.drop_drop,List.take_append_drop]
  rw[this];exact k.append m
end
end
end
def atR (h off n:Nat):Nat→Nat→Bool:=fun a c=>a==h&&decide (off≤c)&&decide (c<off+n)
def qR (h off n:Nat):Nat→Nat→Bool→Bool:=fun a c _=>atR h off n a c
theorem Got.dead {ts:List DT}(G:Got cx D w P ts ys)(p:Nat→Nat→Bool)(q:Nat→Nat→Bool→Bool):
  Got cx (St.dead p q D) w P (ts.map (T.dead p)) ys:=by
 refine⟨wI G.v,fun t a=>?_,fun t a f=>?_,fun t a=>?_,fun b=>?_⟩
 ·obtain⟨u,d,rfl⟩:=WU.1 a;exact OX (G.holds u d)
 ·obtain⟨u,d,rfl⟩:=WU.1 a;rcases T.dead_cases p u with e|⟨e,_⟩
  ·rw[e]at f ⊢;exact G.own u d f
  ·rw[e]at f;cases f
 ·obtain⟨u,d,rfl⟩:=WU.1 a;rcases T.dead_cases p u with e|⟨e,_⟩
  ·rw[e];exact Eq (fun h c t=>iR) (G.kind u d)
  ·rw[e];trivial
 ·have:(ts.map (T.dead p)).flatMap ownR=ts.flatMap ownR:=by rw[Yq];simp only[BV]
  rw[this];exact G.cnt b
theorem Inv.box_got (I:Inv cx D P tm w){b:Nat×Nat}{ts:List DT}(hb:D[h]?=some (.box b ts))(G:Got cx D w P us ys){v:DT}(hv:v∈us):b.1∉bl v:=by
 intro a;have c:=(I.box_may hb).1;have e:=G.kind v hv;cases v with
 |v x=>simp[bl]at a
 |any=>simp[bl]at a
 |s k d z r =>
  cases k with
  |far=>exact Cx.far_not (e _ a) c
  |lent i j l =>obtain⟨t',g1,f,g3,g⟩:=e;exact I.box_tree hb g1 f (g3 _ a)
  |own =>have m:=I.once b.1;have n:=G.cnt b.1;have o:=cQ (b:=b.1) (WC hb) (by simp[ownBl]);have p:0<(us.flatMap ownR).count b.1:=WW.2 (WP.2 ⟨_,hv,by simp only[ownR,T.isOwn,W8];exact a⟩);omega
theorem mc {l:List α}{o:Nat}{new:List α}(h:o+new.length≤l.length)(hi:¬(o≤i∧i<o+new.length)):(au l o new)[i]?=l[i]?:=by
 rw[eV h];split
 ·rfl
 ·split
  ·omega
  ·rfl
theorem Inv.storeBox (I:Inv cx D P tm w){b:Nat×Nat}{ts:List DT}(hb:D[h]?=some (.box b ts))(G:Got cx D w P us ys){off:Nat}(hl:off+us.length≤ts.length)(Z2:0<us.length):
  (∃c e lo hi,w.heap[b.1]?=some (.cells c e (lo,hi))∧b.2+off+ys.length≤c.size∧∀x,b.2+off≤x→x<b.2+off+ys.length→¬(lo≤x∧x<hi)) ∧
  Inv cx ((St.dead (atR h off us.length) (qR h off us.length) D).set h (.box b (au (ts.map (T.dead (atR h off us.length))) off (us.map (T.dead (atR h off us.length))))))
   [] tm (w.setCells b.1 (b.2+off) ys):=by
 have Z3:=G.v.1;obtain⟨⟨c,e,⟨lo,hi⟩,hh,hv⟩,i⟩:=(I.mem _ (WC hb)).2.2;have Z6:b.2+ts.length≤c.size:=by
  obtain⟨y,hy,_⟩:=hv (ts.length-1) _ (WE (by omega));rcases WI (b.2+(ts.length-1)) c.size with g|g
  ·omega
  ·rw[Xz g]at hy;cases hy
 have Y:∀x,b.2+off≤x→x<b.2+off+ys.length→¬(lo≤x∧x<hi):=fun x m J=>i c e lo hi hh x (by omega) (by omega)
 refine⟨⟨c,e,lo,hi,hh,by omega,Y⟩,?_⟩;obtain⟨f1,f2,f3,f4,f5,f6⟩:=ls b.1 e (lo,hi) ys (b.2+off) w c hh (by omega);have F:=I.dead (atR h off us.length) (qR h off us.length);have o:=G.dead (atR h off us.length) (qR h off us.length);have hb2:=Kj (p:=atR h off us.length) (q:=qR h off us.length) hb;have Z:∀{n f:Nat},atR h off us.length n f=true→∀s∈St.dead (atR h off us.length) (qR h off us.length) D,¬sL n f s∧((∀b,qR h off us.length n f b=true)→∀st,¬rq n f st s)∧((qR h off us.length n f true=true)→∀st,rq n f st s→st=[]):=
  fun K=>oN K
 generalize Z7:St.dead (atR h off us.length) (qR h off us.length) D=D2 at F o hb2 Z ⊢;generalize Q:ts.map (T.dead (atR h off us.length))=A at hb2 ⊢;generalize R:us.map (T.dead (atR h off us.length))=l at o ⊢;have Z4:A.length=ts.length:=by rw[←Q];simp
 have Z5:l.length=us.length:=by rw[←R];simp
 have B:off+l.length≤A.length:=by omega
 have L:=F.mem _ (WC hb2);have a:∀t:DT,b.1∉bl t→∀x∈bl t,x<w.heap.size→(w.setCells b.1 (b.2+off) ys).heap[x]?=w.heap[x]?:=fun t ht x hx _=>f2 x (fun e=>ht (e ▸ hx))
 refine F.boxSet (ts:=A) ⟨hb2,mb B,?_,?_,?_,?_,?_,?_,?_,?_,?_,?_,?_,?_,?_⟩
 ·
  refine⟨_,e,(lo,hi),f1,fun j t M=>?_⟩;obtain⟨c2,e2,Z8,S,U⟩:=L.2.2.1;rw[hh]at S;cases S;rw[eV B]at M;have Z0:b.2+off+ys.length≤c.toList.length:=by simp;omega
  simp only[YJ];rw[eV Z0];split at M
  ·rename_i m;rw[Wz (by omega)];simpa using U j t M
  ·split at M
   ·rename_i m J;rw[WM (by omega),Wz (by omega)];have C:j-off<ys.length:=by omega
    refine⟨ys[j-off],?_,?_⟩
    ·rw[show b.2+j-(b.2+off)=j-off by omega];exact WE C
    ·exact o.v.2 _ t _ M (WE C)
   ·rename_i m J;rw[WM (by omega),WM (by omega)];simpa using U j t M
 ·intro f N Z9 hi' hc x m J;rw[f1]at hc;cases hc;exact i c e lo hi hh x m (by omega)
 ·intro t ht;rcases iv ht with ht|ht
  ·exact(L.1 t ht).frame (a t (F.box_root hb2 hb2 ht))
  ·exact(o.holds t ht).frame (a t (F.box_got hb2 o ht))
 ·intro t ht ho;rcases iv ht with ht|ht
  ·exact(L.2.1 t ht ho).frame (a t (F.box_root hb2 hb2 ht))
  ·exact(o.own t ht ho).frame (a t (F.box_got hb2 o ht))
 ·intro t ht;have hk:bQ cx D2 t:=by
   rcases iv ht with ht|ht
   ·exact F.kind _ (WC hb2) t ht
   ·exact o.kind t ht
  have Z1:∀c O d z r,off≤c→c<off+us.length→t ≠ .s (.lent h c O) d z r:=by
   intro c O d z r m J e;have V:∀u:DT,u.dead (atR h off us.length) ≠ .s (.lent h c O) d z r:=by
    intro u H;rcases T.dead_cases (atR h off us.length) u with N|⟨N,_⟩
    ·rw[N]at H;subst H;have:(T.s (.lent h c O) d z r:DT).dead (atR h off us.length)= .any:=by simp[T.dead,atR,m,J]
     rw[this]at N;cases N
    ·rw[N]at H;cases H
   subst e;rcases iv ht with ht|ht
   ·rw[←Q]at ht;obtain⟨u,_,H⟩:=WU.1 ht;exact V u H
   ·rw[←R]at ht;obtain⟨u,_,H⟩:=WU.1 ht;exact V u H
  cases t with
  |v x=>trivial
  |any=>trivial
  |s k d z r =>
   cases k with
   |own=>trivial
   |far=>exact hk
   |lent n f O =>
    obtain⟨t',g1,g2,g3⟩:=hk;refine⟨t',?_,g2,g3⟩;by_cases e:n=h
    ·subst e;have W:¬(off≤f∧f<off+l.length):=fun⟨m,J⟩=>Z1 f O d z r m (by omega) rfl
     have C:n<D2.length:=by
      rcases WI n D2.length with g|g
      ·exact g
      ·rw[WF g]at hb2;cases hb2
     simp only[aw,hb2,Wy,bh]at g1;simp only[aw,WN C,Wy,bh];rw[mc B W];exact g1
    ·rw[nB e];exact g1
 ·intro x;have m:=qv ownR A l off x;have J:=o.cnt x;rw[cX];omega
 ·intro f t hc ho;by_cases X:off≤f∧f<off+l.length
  ·right;have K:atR h off us.length h f=true:=by simp[atR,X.1];omega
   refine⟨fun s hs=>?_,fun s hs st=>?_⟩
   ·exact(Z K s hs).1
   ·exact(Z K s hs).2.1 (fun b=>K) st
  ·left;rw[mc B X];exact hc
 ·omega
 ·exact fun x _ hx=>f2 x hx
 ·exact f4
 ·exact f5
 ·exact f6
 ·intro p K;cases K
section
variable  {δ : Type}
def T.flat:T δ→Bool| .s _ _ _ _=>false|_=>true
def setRow (i off:Nat)(us:List (T δ)):T δ→Option (T δ)| .s k d z rows=>(rows[i]?).bind fun row=>if off+us.length≤row.length then some (.s k d z (rows.set i (au row off us)))else none|_=>none
end
theorem Fz {f:DT→Option DT}{n n':DT}(hf:f n=some n')(K:∀a d z m,mO n a d z m→mO n' a d z m):∀(st:List (Nat×Nat)){t t':DT},
  getN t st=some n→gN f t st=some t'→∀a d z m,mO t a d z m→mO t' a d z m
 |[],t,t',l,q,a,d,z,m,h=>by cases l;simp only[gN,hf]at q;cases q;exact K a d z m h
 |(i,c)::st,t,t',l,q,a,d,z,m,h=>by
  cases t with
  |v x=>simp[getN]at l
  |any=>simp[getN]at l
  |s M N z0 rows =>
   simp only[getN,WA]at l;obtain⟨u,⟨row,hi,y⟩,l⟩:=l;simp only[gN,hi,y,Wy,WD]at q;obtain⟨u',q,rfl⟩:=q;have H:=Fz hf K st l q;have o:i<rows.length:=by
    rcases WI i rows.length with g|g
    ·exact g
    ·rw[WF g]at hi;cases hi
   have w:c<row.length:=by
    rcases WI c row.length with g|g
    ·exact g
    ·rw[WF g]at y;cases y
   obtain⟨B,b,g1,A⟩:=h;cases a with
   |nil =>cases g1;exact⟨_,_,rfl,by simpa using A⟩
   |cons p a =>
    obtain⟨C,D⟩:=p;simp only[getN,WA]at g1;obtain⟨v,⟨F,j,k⟩,g1⟩:=g1;by_cases e:C=i∧D=c
    ·obtain⟨rfl,rfl⟩:=e;rw[hi]at j;cases j;rw[y]at k;cases k;obtain⟨I,r,q1,J⟩:=H a d z m ⟨B,b,g1,A⟩;refine⟨I,r,?_,J⟩;simp only[getN];rw[WN o];simp only[Wy];rw[WN w];exact q1
    ·refine⟨B,b,?_,A⟩;simp only[getN];by_cases G:C=i
     ·subst G;rw[hi]at j;cases j;have L:¬c=D:=fun h=>e ⟨rfl,h.symm⟩
      rw[WN o];simp only[Wy];rw[WR L,k];exact g1
     ·rw[WR (fun h=>G h.symm),j];simp only[Wy];rw[k];exact g1
theorem Lz {u:Dec}{z0:Nat}{rows:List (List DT)}{off:Nat}{row:List DT}(hi:rows[i]?=some row)(B:off+us.length≤row.length)(b:∀c,off≤c→c<off+us.length→∀t,row[c]?=some t→t.flat=true)(a:List (Nat×Nat))(d:Dec)(z m:Nat)(h:mO (.s k u z0 rows) a d z m):
  mO (.s k u z0 (rows.set i (au row off us))) a d z m:=by
 have n:i<rows.length:=by
  rcases WI i rows.length with g|g
  ·exact g
  ·rw[WF g]at hi;cases hi
 obtain⟨C,e,g1,w⟩:=h;cases a with
 |nil =>cases g1;exact⟨_,_,rfl,by simpa using w⟩
 |cons p a =>
  obtain⟨D,o⟩:=p;simp only[getN,WA]at g1;obtain⟨v,⟨y,f,j⟩,g1⟩:=g1;refine⟨C,e,?_,w⟩;simp only[getN];by_cases A:D=i
  ·subst A;rw[hi]at f;cases f;rw[WN n];simp only[Wy];by_cases l:off≤o∧o<off+us.length
   ·have:=b o l.1 l.2 v j;cases v with
    |s k d z r=>cases this
    |v x=>cases a with
     |nil=>cases g1
     |cons p q=>simp[getN]at g1
    |any=>cases a with
     |nil=>cases g1
     |cons p q=>simp[getN]at g1
   ·rw[mc B l,j];exact g1
  ·rw[WR (fun h=>A h.symm),f];simp only[Wy];rw[j];exact g1
theorem Inv.got_apart (I:Inv cx D P tm w){c:Nat}{t:DT}(hc:aw D h c=some t)(e:t.isOwn=true)(G:Got cx D w P us ys){v:DT}(hv:v∈us)(hf:v.fine=true){b:Nat}(hb:b∈bl t)(a:b∈bl v):False:=by
 cases v with
 |v x=>simp[bl]at a
 |any=>simp[bl]at a
 |s k d z r =>
  cases k with
  |far=>cases hf
  |lent i j l=>cases hf
  |own =>obtain⟨s,g1,f,g3,g,g4⟩:=cj hc;have m:=I.once b;have n:=G.cnt b;have o:=cQ (b:=b) f (g4 e b hb);have p:0<(us.flatMap ownR).count b:=WW.2 (WP.2 ⟨_,hv,by simp only[ownR,T.isOwn,W8];exact a⟩);omega
theorem wO {t:DT}(h:t.fine=true):t.isOwn=true∨bl t=[]:=by
 cases t with
 |v x=>right;simp[bl]
 |any=>right;simp[bl]
 |s k d z r=>cases k<;>first|(left;rfl)|cases h
theorem sN {t:DT}(hf:t.fine=true)(h:t.isOwn=true→OwnT w t):OwnT w t:=by
 cases t with
 |v x=>exact .v x
 |any=>exact .any
 |s k d z r=>cases k<;>first|exact h rfl|cases hf
theorem qf {a j:Nat}(h:a<i)(b:j<z):a*z+j<i*z:=by have:(a+1)*z≤i*z:=XN _ h;rw[X0]at this;omega
theorem j9:∀(st:List (Nat×Nat)){t n:DT},getN t st=some n→∀b,(bl n).count b≤(bl t).count b
 |[],t,n,h,b=>by cases h;exact Xj _
 |(i,c)::st,t,n,h,b=>by
  cases t with
  |v x=>simp[getN]at h
  |any=>simp[getN]at h
  |s k d z rows =>simp only[getN,WA]at h;obtain⟨u,⟨row,hi,a⟩,e⟩:=h;have f:=j9 st e b;have g:=JV (k:=k) (d:=d) (z:=z) hi a b;omega
theorem NodeOk.setRow (I:Inv cx D P tm w){c:Nat}{t:DT}(hc:aw D h c=some t)(R:t.isOwn=true){rows:List (List DT)}(hn:getN t st=some (.s k d z rows)){off:Nat}{row:List DT}(hi:rows[i]?=some row)(G:Got cx D w P us ys)(H:∀u∈us,u.fine=true)(hl:off+us.length≤row.length):
  (∃S e lo V,w.heap[d.b]?=some (.cells S e (lo,V))∧d.o+i*z+off+ys.length≤S.size∧∀x,d.o+i*z+off≤x→x<d.o+i*z+off+ys.length→¬(lo≤x∧x<V)) ∧
  (d.nil=false∧d.b<w.heap.size∧d.b∈bl t) ∧
  NodeOk w (w.setCells d.b (d.o+i*z+off) ys) (.s k d z rows) (.s k d z (rows.set i (au row off us))):=by
 have Z9:=G.v.1;obtain⟨s,hs,Z2,hr,Z3,hsub⟩:=cj hc;have U:=I.mem s Z2;have hH:=Holds.getN st (U.1 t hr) hn;have hO:=OwnT.getN st (U.2.1 t Z3 R) hn;have B:i<rows.length:=by
  rcases WI i rows.length with g|g
  ·exact g
  ·rw[WF g]at hi;cases hi
 cases hH with
 |e=>simp at B
 |s _ _ _ _ r hsp S e f hb hcap hz hv hh =>
  cases hO with
  |nil=>simp at B
  |s _ _ _ Z4 hsp' c1 e1 lo L W Z5 hroom X Z6 =>
   rw[hb]at W;cases W;have Z7:=hz i row hi;have Z8:(i+1)*z≤d.cap*z:=XN _ (by omega);rw[X0]at Z8;have M:d.o+i*z+off+ys.length≤S.size:=by omega
   have N:d.b∈bl (.s .own d z rows:DT):=mv r;have Y:d.b∈bl t:=xF st hn d.b N;refine⟨⟨S,e,lo,L,hb,M,fun x p C=>X x (by omega) (by omega)⟩,⟨r,d8 hb,Y⟩,?_⟩;obtain⟨f1,f2,f3,f4,f5,f6⟩:=ls d.b e (lo,L) ys (d.o+i*z+off) w S hb M;have Z:=I.bl_once hc R d.b;have F:∀(m:Nat)(a:List DT)(j:Nat)(u:DT),rows[m]?=some a→a[j]?=some u→d.b∉bl u:=by
    intro m a j u p C U;have q1:=JV (k := .own) (d:=d) (z:=z) p C d.b;rw[r]at q1;simp only[W2,Xs]at q1;have q2:(bl (.s .own d z rows:DT)).count d.b≤1:=by refine Xu ?_ Z;exact j9 st hn d.b
    have q3:0<(bl u).count d.b:=WW.2 U;simp at q1;omega
   have n:∀u:DT,d.b∉bl u→∀x∈bl u,x<w.heap.size→(w.setCells d.b (d.o+i*z+off) ys).heap[x]?=w.heap[x]?:=fun u O x hx _=>f2 x (fun e=>O (e ▸ hx))
   have Q:∀u∈us,d.b∉bl u:=fun u O U=>I.got_apart hc R G O (H u O) Y U
   have A:∀(m:Nat)(a:List DT)(j:Nat)(u:DT),(rows.set i (au row off us))[m]?=some a→a[j]?=some u →
     (∃l,rows[m]?=some l∧l[j]?=some u∧¬(m=i∧off≤j∧j<off+us.length))∨(m=i∧off≤j∧j<off+us.length∧us[j-off]?=some u):=by
    intro m a j u p C;by_cases e:m=i
    ·subst e;rw[WN B]at p;cases p;by_cases J:off≤j∧j<off+us.length
     ·right;rw[eV hl,WM (by omega),Wz (by omega)]at C;exact⟨rfl,J.1,J.2,C⟩
     ·left;rw[mc hl J]at C;exact⟨row,hi,C,fun g=>J g.2⟩
    ·left;rw[WR (fun g=>e g.symm)]at p;exact⟨a,p,C,fun g=>e g.1⟩
   refine⟨?_,?_,?_,?_⟩
   ·refine .s _ _ _ _ r hsp _ e (lo,L) f1 (by simpa using hcap) (fun m a p=>?_) (fun m a j u p C=>?_) (fun m a j u p C=>?_)
    ·by_cases e:m=i
     ·subst e;rw[WN B]at p;cases p;rw[mb hl];exact Z7
     ·rw[WR (fun g=>e g.symm)]at p;exact hz m a p
    ·have Z0:d.o+i*z+off+ys.length≤S.toList.length:=by simpa using M
     simp only[YJ];rcases A m a j u p C with⟨l,g1,K,g3⟩|⟨rfl,g1,K,g3⟩
     ·obtain⟨y,y1,y2⟩:=hv m l j u g1 K;refine⟨y,?_,y2⟩;have hj:j<z:=by
       have:=hz m l g1;rcases WI j l.length with q|q
       ·omega
       ·rw[WF q]at K;cases K
      rw[mc Z0 ?_]
      ·simpa using y1
      ·intro J;rcases YH m i with q|q|q
       ·have:=qf q hj;omega
       ·subst q;exact g3 ⟨rfl,by omega,by omega⟩
       ·have:=qf (j:=off+us.length-1) (z:=z) q (by omega);omega
     ·have Z1:j-off<ys.length:=by omega
      rw[eV Z0,WM (by omega),Wz (by omega)];refine⟨ys[j-off],?_,G.v.2 _ u _ g3 (WE Z1)⟩;rw[show d.o+m*z+j-(d.o+m*z+off)=j-off by omega];exact WE Z1
    ·rcases A m a j u p C with⟨l,g1,K,_⟩|⟨_,_,_,g3⟩
     ·exact(hh m l j u g1 K).frame (n u (F m l j u g1 K))
     ·exact(G.holds u (WC g3)).frame (n u (Q u (WC g3)))
   ·refine .s _ _ _ r hsp _ e lo L f1 (by simpa using hcap) ?_ X (fun m a j u p C=>?_)
    ·simp only[Zn];rw[mb (by simpa using M)];simpa using hroom
    ·rcases A m a j u p C with⟨l,g1,K,_⟩|⟨_,_,_,g3⟩
     ·exact(Z6 m l j u g1 K).frame (n u (F m l j u g1 K))
     ·have O:=WC g3;exact(sN (H u O) (G.own u O)).frame (n u (Q u O))
   ·intro y hy;simpa[VT]using hy
   ·intro x _ hx;exact f2 x fun e=>hx (e ▸ N)
def qSt (a:Bool)(h c:Nat):Nat→Nat→Bool→Bool:=if a then qNo else nU h c
theorem pg {c:Nat}{t:DT}(hc:aw D h c=some t)(d:t.isOwn=true)(b:Nat):(bl t).count b≤bF D b:=by
 unfold aw at hc;simp only[WA]at hc;obtain⟨cs,⟨s,hs,a⟩,e⟩:=hc;have f:=bY ownR (T.any:DT) b cs c t e;have i:(ownR (T.any:DT)).count b=0:=rfl;have g:ownR t=bl t:=by simp[ownR,d]
 have j:=q9 a b;have k:=bY ownBl (Sl.any:DSl) b D h s hs;have l:(ownBl (Sl.any:DSl)).count b=0:=rfl;unfold bF;rw[g]at f;omega
theorem Inv.updNode {P':List (DT×Value)}(I:Inv cx D P tm w){c:Nat}{t:DT}(hc:aw D h c=some t)(j:t.isOwn=true){f:DT→Option DT}{n n':DT}(y:getN t st=some n)(hf:f n=some n')(N:NodeOk w w' n n')(Z0:n.isOwn=true→n'.isOwn=true)(hp:p h c=true)(hq:(∀l d z m,mO n l d z m→mO n' l d z m)∨(q h c true=true∧∀d z m,mO n [] d z m→mO n' [] d z m)∨(∀b,q h c b=true))(B:∀b,(bl n').count b+bc P' b≤if b<w.heap.size then(bl n).count b+bc P b else 1)(L:∀b,w.heap.size≤b→0<(bl n').count b+bc P' b→b<w'.heap.size)(F:w.heap.size≤w'.heap.size)(Z1:w'.os=w.os)(G:w'.tape=w.tape)(M:w'.output=w.output)(H:∀p∈P',VT p.1 p.2∧Holds w' p.1∧(p.1.isOwn=true→OwnT w' p.1)∧(p.1.isOwn=false→∀x∈bl p.1,cx.far x)):
  ∃D',dL f (St.dead p q D) h c st=some D'∧Inv cx D' P' tm w':=by
 obtain⟨s,hs,Z2,hr,O,Q⟩:=cj hc;have hm:=I.mem s Z2;have A:∃t',gN f t st=some t':=by
  clear hr O Q B hm hc j;induction st generalizing t with
  |nil=>cases y;exact⟨n',hf⟩
  |cons a st ih =>
   obtain⟨i,c⟩:=a;cases t with
   |v x=>simp[getN]at y
   |any=>simp[getN]at y
   |s k d z rows =>simp only[getN,WA]at y;obtain⟨u,⟨row,hi,hj⟩,hg⟩:=y;obtain⟨u',Z3⟩:=ih hg;exact⟨.s k d z (rows.set i (row.set c u')),by simp[gN,hi,hj,Z3]⟩
 obtain⟨t',A⟩:=A;obtain⟨Z,R,C,_⟩:=HJ N hf st (hm.1 t hr) (hm.2.1 t O j) (fun b=>I.bl_once hc j b) y A;have J:t'.isOwn=true:=by
  cases st with
  |nil =>cases y;simp only[gN,hf]at A;cases A;exact Z0 j
  |cons a st=>exact(C (by simp)).1
 have K:aw (St.dead p q D) h c=some t:=iR hc j;obtain⟨D',S⟩:=Ej (t':=t') K;refine⟨D',?_,?_⟩
 ·unfold dL;rw[K];simp only[Wy,A,S]
 have I2:=I.dead p q;have o:∀b,(bl n).count b≤(bl t).count b:=j9 st y;have U:ownR t'=bl t':=by simp[ownR,J]
 have V:ownR t=bl t:=by simp[ownR,j]
 refine I2.upd S ⟨K,j,Z.holds,fun _=>Z.own,.inl J,Z.val,?_,?_,?_,?_,F,?_,Z1,G,M,H⟩
 ·intro b;have h1:=B b;have h2:=R b;have h3:=o b;have h4:=I.once b;have h5:=pg hc j b;rw[U,V];by_cases r:b<w.heap.size
  ·rw[Wz r]at h1 ⊢;omega
  ·rw[WM r]at h1 ⊢;have h6:bF D b+bc P b=0:=by
    rcases Xt (bF D b+bc P b)with g|g
    ·exact g
    ·exact absurd (I.bnd b g).2 r
   omega
 ·intro b hb W;have h2:=R b;have h5:=pg hc j b;have h6:bF D b+bc P b=0:=by
   rcases Xt (bF D b+bc P b)with g|g
   ·exact g
   ·have:=(I.bnd b g).2;omega
  rw[U]at W;exact L b hb (by have:=o b;omega)
 ·intro s hs;exact(oN (p:=p) (q:=q) hp s hs).1
 ·intro s hs l hsp;refine⟨J,?_⟩;have X:=(oN (p:=p) (q:=q) (h:=h) (c:=c) hp s hs).2;rcases hq with hq|⟨Z4,Z5⟩|hq
  ·exact Fz hf hq st y A l
  ·have e:=X.2 Z4 l hsp;subst e;intro d z m Y;cases st with
   |nil =>cases y;simp only[gN,hf]at A;cases A;exact Z5 d z m Y
   |cons a st=>exact(C (by simp)).2 d z m Y
  ·exact absurd hsp (X.1 hq l)
 ·intro b r hb;exact Z.same b r hb
theorem Inv.storeNode (I:Inv cx D P tm w){c:Nat}{t:DT}(hc:aw D h c=some t)(a:t.isOwn=true){rows:List (List DT)}(r:getN t st=some (.s k d z rows)){off:Nat}{row:List DT}(hi:rows[i]?=some row)(G:Got cx D w P us ys)(j:∀u∈us,u.fine=true)(A:off+us.length≤row.length)(B:Bool)(C:B=true→∀c,off≤c→c<off+us.length→∀t,row[c]?=some t→t.flat=true):
  (∃y e lo l,w.heap[d.b]?=some (.cells y e (lo,l))∧d.o+i*z+off+ys.length≤y.size∧∀x,d.o+i*z+off≤x→x<d.o+i*z+off+ys.length→¬(lo≤x∧x<l)) ∧
  ∃D',dL (setRow i off us) (St.dead (dv h c) (qSt B h c) D) h c st=some D'∧Inv cx D' [] tm (w.setCells d.b (d.o+i*z+off) ys):=by
 obtain⟨n,⟨M,O,U⟩,N⟩:=NodeOk.setRow I hc a r hi G j A;refine⟨n,?_⟩;obtain⟨y,e,lo,l,hh,F,V⟩:=n;obtain⟨f1,f2,f3,f4,f5,f6⟩:=ls d.b e (lo,l) ys (d.o+i*z+off) w y hh F;have Q:i<rows.length:=by
  rcases WI i rows.length with g|g
  ·exact g
  ·rw[WF g]at hi;cases hi
 have W:(T.s k d z rows:DT).isOwn=true:=by obtain⟨s,hs,H,hr,J,R⟩:=cj hc;have:=OwnT.getN st ((I.mem s H).2.1 t J a) r;cases this<;>rfl
 have q:∀b,(bl (.s k d z (rows.set i (au row off us)):DT)).count b≤(bl (.s k d z rows:DT)).count b+bc P b:=by
  intro b;have S:=G.cnt b;have h2:=qv bl row us off b;have h3:(us.flatMap bl).count b≤(us.flatMap ownR).count b:=by
   have:us.flatMap bl=us.flatMap ownR:=by
    rw[YZ,YZ,Xi fun u X=>?_];rcases wO (j u X)with g|g
    ·simp[ownR,g]
    ·simp[ownR,g]
   rw[this];exact Xj _
  have h4:=bY (fun x:List DT=>x.flatMap bl) (au row off us) b rows i row hi;rw[cS,cS,W3,W3];omega
 refine I.updNode hc a r (f:=setRow i off us) ?_ N (fun _=>by cases k<;>first|rfl|cases W) (by simp[dv]) ?_ ?_ ?_ (by omega) f4 f5 f6 (fun p Y=>by cases Y)
 ·simp only[setRow,hi,Wy];rw[Wz A]
 ·cases B with
  |true =>left;exact Lz hi A (C rfl)
  |false =>right;left;refine⟨by simp[qSt,nU],?_⟩;rintro d z m ⟨k1,K,g1,Z⟩;cases g1;exact⟨_,_,rfl,by simpa using Z⟩
 ·intro b;have S:=q b;rw[cX];split
  ·omega
  ·rename_i L;have h5:=pg hc a b;have h6:bF D b+bc P b=0:=by
    rcases Xt (bF D b+bc P b)with g|g
    ·exact g
    ·exact absurd (I.bnd b g).2 L
   have h7:=j9 st r b;omega
 ·intro b hb v;have S:=q b;rw[cX]at v;have h5:=pg hc a b;have h6:bF D b+bc P b=0:=by
   rcases Xt (bF D b+bc P b)with g|g
   ·exact g
   ·have:=(I.bnd b g).2;omega
  have h7:=j9 st r b;omega
section
variable  {δ β : Type}
def jN (D:St δ β)(p:Sl δ β)(us:List (T δ)):Option (St δ β):=
 match p with
 | .pb h off =>
  match D[h]? with
  |some (.box b ts)=>
   if off+us.length≤ts.length then
    some ((St.dead (atR h off us.length) (qR h off us.length) D).set h (.box b (au (ts.map (T.dead (atR h off us.length))) off (us.map (T.dead (atR h off us.length))))))
   else none
  |_=>none
 | .pe h c st i off =>
  if us.all T.fine then
   match aw D h c with
   |some t =>
    if t.isOwn then
     match getN t st with
     |some (.s _ _ _ rows)=>
      match rows[i]? with
      |some row =>
       if off+us.length≤row.length then
        dL (setRow i off us) (St.dead (dv h c) (qSt (((row.drop off).take us.length).all T.flat) h c) D) h c st
       else none
      |none=>none
     |_=>none
    else none
   |none=>none
  else none
 |_=>none
def sg (M:Mk δ β)(tab:Tab)(D:St δ β)(t:Nat)(p x:Operand)(tk:Bool):Option (St δ β):=
 match tab.ti t,cellsOf M D x tk with
 |some ti,some (_,us,D1)=>if us.length=ti.size∧0<us.length then(opd M.nil D1 p).bind fun p=>jN D1 p us else none
 |_,_=>none
end
theorem Inv.cellsOf (I:Inv cx D [] a.tmps w){x:Operand}{ts:List DT}(e:cellsOf mkD D x tk=some (g,ts,D')):
  ∃ys P,Inv cx D' P a.tmps w∧Got cx D' w P ts ys∧cy g (a.eval x) ys:=by
 unfold Am.cellsOf at e;split at e
 ·exact I.cellsTake e
 ·rw[WD]at e;obtain⟨⟨d,ts'⟩,h,e⟩:=e;cases e;obtain⟨ys,b,c⟩:=I.cellsCopy h;exact⟨ys,[],I,b,c⟩
theorem In {P:Program}{tab:Tab}(ok:bz P tab){D1:DSt}{I:List (DT×Value)}(r:Inv cx D1 I a.tmps w){ti:TI}{p:Operand}{o:Value}(s:tab.ti t=some ti)(G:Got cx D1 w I us ys)(hv:cy g o ys)(u:us.length=ti.size∧0<us.length){J:DSl}(O:Am.opd mkD.nil D1 p=some J)(e:jN D1 J us=some D'):
  ∃w',(Instr.storeAt t (a.eval p) o).run P w = .ok () w'∧Inv cx D' [] a.tmps w':=by
 have K:=r.opd (a:=a) O;have L:=G.v.1;have q:g=false→o.oneCell'=true:=by
  intro q;subst q;have:ys=[o]:=by simpa[cy]using hv
  exact G.v.cells1 _ (by rw[this];simp)
 have j:=Tab.ok ok s;unfold jN at e;split at e
 ·rename_i h off;split at e
  case h_2=>cases e
  rename_i b ts hb;split at e
  case isFalse=>cases e
  rename_i x;cases e;obtain⟨⟨c,e,lo,hi,y,A,B⟩,C⟩:=r.storeBox hb G x u.2;obtain⟨V,ts',l,D⟩:=K.val;rw[hb]at l;cases l;refine⟨_,?_,C⟩;rw[D];exact Dq j y hv q (by omega) A B G.v.cells1
 ·rename_i h c st i off;split at e
  case isFalse=>cases e
  rename_i f;split at e
  case h_2=>cases e
  rename_i W m;split at e
  case isFalse=>cases e
  rename_i n;split at e
  case h_2=>cases e
  rename_i k d z rows M;split at e
  case h_2=>cases e
  rename_i row hi;split at e
  case isFalse=>cases e
  rename_i x;obtain⟨⟨X,Y,lo,Q,y,A,B⟩,Z,F,C⟩:=r.storeNode m n M hi G (by simpa using f) x (((row.drop off).take us.length).all T.flat) (fun hs c R S t U=>by rw[WS]at hs;refine hs t (WC (i:=c-off) ?_);rw[XJ,Wz (by omega),Xx,show off+(c-off)=c by omega];exact U);rw[F]at e;cases e;obtain⟨d',z',n',⟨t1,q1,q2,k2,H,N,q4⟩,_,D⟩:=K.val;rw[m]at q1;cases q1;rw[M]at N;cases N;refine⟨_,?_,C⟩;rw[D];exact Dq j y hv q (by omega) A B G.v.cells1
 ·cases e
theorem Oj {P:Program}{tab:Tab}(ok:bz P tab)(I:Inv cx D [] a.tmps w){p x:Operand}(e:sg mkD tab D t p x tk=some D'):∃w',(Instr.storeAt t (a.eval p) (a.eval x)).run P w = .ok () w'∧Inv cx D' [] a.tmps w':=by
 unfold sg at e;split at e
 case h_2=>cases e
 rename_i ti g us D1 b hc;split at e
 case isFalse=>cases e
 rename_i c;rw[WA]at e;obtain⟨h,d,e⟩:=e;obtain⟨ys,i,f,G,hv⟩:=I.cellsOf hc;exact In ok f b G hv c d e
section
structure nv (δ β:Type) where
 box:β
 row:Nat→δ
 app:δ→Nat→Nat→Nat→δ
 str:Nat→Nat→δ
def frD (w:World):nv Dec (Nat×Nat):=⟨(w.heap.size,0),fun cap=>⟨w.heap.size,0,cap,false,none⟩,fun d n m e=>if n+m≤d.cap then d else⟨w.heap.size,0,grownCap w (n+m) d.cap e,false,none⟩,fun n e=>⟨w.heap.size,0,grownCap w n 0 e,false,none⟩⟩
def frU:nv Unit Unit:=⟨(),fun _=>(),fun _ _ _ _=>(),fun _ _=>()⟩
section
variable  {δ β : Type}
def pW (M:Mk δ β)(F:nv δ β)(tab:Tab)(D:St δ β)(dst:Option Nat)(t:Nat):Option (St δ β):=
 match tab.ti t,dst with
 |some ti,some d=>if d<D.length then some (bj D (some d) (.box F.box (ti.zero.map (T.inj M.nil))))else none
 |_,_=>none
def Cv (M:Mk δ β)(F:nv δ β)(D:St δ β)(dst:Option Nat)(x:Operand)(tk:Bool):Option (St δ β):=
 match cellsOf M D x tk,dst with
 |some (_,us,D1),some d=>if d<D1.length then some (bj D1 (some d) (.box F.box us))else none
 |_,_=>none
def qa (D:St δ β)(dst:Option Nat)(x:Operand)(i:Nat):Option (St δ β):=
 match x,dst with
 | .tmp t,some d =>
  match D[t]? with
  |some (.tup rs)=>
   match rs[i]? with
   |some (g,ts)=>
    if d<D.length∧ts.all T.noLent then
     (jm g ts).map fun s=>bj (D.set t (.tup (rs.set i (g,ts.map T.hole)))) (some d) s
    else none
   |none=>none
  |_=>none
 |_,_=>none
def mn (D:St δ β)(x:Operand):Option Nat :=
 match x with
 | .tmp t=>(match D[t]? with|some (.box _ _)=>some t|some (.pb h 0)=>some h|_=>none)
 |_=>none
def pA (D:St δ β):List Operand→Option (List Nat)|[]=>some []|x::xs=>(mn D x).bind fun h=>(pA D xs).map fun hs=>h::hs
def yS (D:St δ β)(f:FuncId)(xs:List Operand):Option (Sl δ β):=(pA D xs).map fun hs=>.clo (.fn f) hs
end
variable  {P : Program}{tab : Tab}
theorem kR (w:World)(e:TypeId)(cs:Array Value):(newRow e cs).run P w = .ok ⟨w.heap.size,0,none⟩ (w.alloc (.cells cs e)):=by simp[newRow]
theorem CR (ok:bz P tab)(I:Inv cx D [] a.tmps w){dst:Option Nat}(e:pW mkD (frD w) tab D dst t=some D'):
  ∃y w',(Instr.alloc t true (.tuple #[])).run P w = .ok y w'∧Inv cx D' [] (a.put dst y).tmps w':=by
 unfold pW at e;split at e
 case h_2=>cases e
 rename_i ti d b;split at e
 case isFalse=>cases e
 rename_i hd;cases e;obtain⟨z,c,f,g⟩:=yG (Tab.ok ok b) w;have G:=lW (P:=P) (t:=t) (w:=w) (cx:=cx) (D:=D) (ys:=z.cells.toList) g;rw[←f]at G;have h:=I.newBox (a:=a) (e:=t) G hd;refine⟨_,_,?_,h⟩;simp[Instr.alloc,c,newVar,kR]
theorem Q2 (I:Inv cx D [] a.tmps w){dst:Option Nat}{x:Operand}(e:Cv mkD (frD w) D dst x tk=some D'):
  ∃y w',(Instr.box t (a.eval x)).run P w = .ok y w'∧Inv cx D' [] (a.put dst y).tmps w':=by
 unfold Cv at e;split at e
 case h_2=>cases e
 rename_i g us D1 d hc;split at e
 case isFalse=>cases e
 rename_i hd;cases e;obtain⟨ys,i,f,G,hv⟩:=I.cellsOf hc;have b:(a.eval x).cells=ys.toArray:=by
  cases g with
  |true=>simp only[cy,W8]at hv;rw[hv];rfl
  |false =>
   have:ys=[a.eval x]:=by simpa[cy]using hv
   have c:=G.v.cells1 _ (by rw[this];simp:a.eval x∈ys);rw[this];cases h:a.eval x<;>first|rfl|(rw[h]at c;simp[Value.oneCell']at c)
 refine⟨_,_,?_,f.newBox (e:=t) G hd⟩;simp[Instr.box,newVar,kR,b]
section
variable  {δ β : Type}
def cJ (M:Mk δ β)(D:St δ β)(pl:List (Nat×Nat)):List (Nat×Operand)→List (T δ)→Option (List (T δ))
 |[],ts=>some ts
 |(i,x)::r,ts =>
  match pl[i]?,cellsCopy M D x with
  |some (off,size),some (_,us)=>if us.length=size∧off+us.length≤ts.length then cJ M D pl r (au ts off us)else none
  |_,_=>none
def nA (M:Mk δ β)(tab:Tab)(D:St δ β)(t:Nat)(a:List (Nat×Operand)):Option (Sl δ β):=
 match tab.ti t,tab.pl t with
 |some ti,some pl=>(cJ M D pl a (ti.zero.map (T.inj M.nil))).map fun ts=>.agg ts
 |_,_=>none
end
theorem Got.splice {ts:List DT}{xs:List Value}(G:Got cx D w [] ts xs)(H:Got cx D w [] us ys){off:Nat}(c:off+us.length≤ts.length):
  Got cx D w [] (au ts off us) (au xs off ys):=by
 refine⟨G.v.splice H.v c,fun t a=>?_,fun t a=>?_,fun t a=>?_,fun b=>?_⟩
 ·rcases iv a with h|h
  ·exact G.holds t h
  ·exact H.holds t h
 ·rcases iv a with h|h
  ·exact G.own t h
  ·exact H.own t h
 ·rcases iv a with h|h
  ·exact G.kind t h
  ·exact H.kind t h
 ·have d:=qv ownR ts us off b;have e:=G.cnt b;have f:=H.cnt b;rw[cX]at *;omega
theorem uJ {cx:Cx}{D:DSt}{a:Act}{w:World}(I:Inv cx D [] a.tmps w)(pl:List (Nat×Nat)):∀(b:List (Nat×Operand)){ts ts':List DT}{xs:List Value},Got cx D w [] ts xs →
  cJ mkD D pl b ts=some ts'→∃ys,Instr.fill (pl.toArray[·]?) xs.toArray (b.map fun p=>(p.1,a.eval p.2))=some ys.toArray∧Got cx D w [] ts' ys
 |[],ts,ts',xs,G,e=>by cases e;exact⟨xs,rfl,G⟩
 |(i,x)::r,ts,ts',xs,G,e=>by
  simp only[cJ]at e;split at e
  case h_2=>cases e
  rename_i off size g us h hc;split at e
  case isFalse=>cases e
  rename_i j;obtain⟨ys,H,hv⟩:=I.cellsCopy hc;have c:(a.eval x).cells=ys.toArray:=by
   cases g with
   |true=>simp only[cy,W8]at hv;rw[hv];rfl
   |false =>
    have:ys=[a.eval x]:=by simpa[cy]using hv
    have d:=H.v.cells1 _ (by rw[this];simp:a.eval x∈ys);rw[this];cases k:a.eval x<;>first|rfl|(rw[k]at d;simp[Value.oneCell']at d)
  obtain⟨l,d,m⟩:=uJ I pl r (G.splice H j.2) e;refine⟨l,?_,m⟩;have n:=G.v.1;have o:=H.v.1;have f:pl.toArray[i]?=some (off,size):=by simpa using h
  simp only[WT,Instr.fill,f,c];rw[WM (by simp;omega)];rw[iS ys.toArray off xs.toArray (by simp;omega)];simpa using d
theorem CU {P:Program}{tab:Tab}(ok:bz P tab)(I:Inv cx D [] a.tmps w){c:Array (Nat×Operand)}{s:DSl}(e:nA mkD tab D t c.toList=some s):
  ∃y,(Instr.build t (c.map fun(i,x)=>(i,a.eval x))).run P w = .ok y w∧Tells cx D w s y:=by
 unfold nA at e;split at e
 case h_2=>cases e
 rename_i ti pl g h;rw[WD]at e;obtain⟨ts,j,rfl⟩:=e;obtain⟨i,d,z,g1,o,g3,g4,p,k,q,l⟩:=iq (Tab.ok ok g);have G:=lW (P:=P) (t:=t) (w:=w) (cx:=cx) (D:=D) (ys:=z.cells.toList) l;rw[←k]at G;obtain⟨ys,m,H⟩:=uJ I pl c.toList G j;refine⟨.agg ys.toArray,run_build w t _ _ ?_,⟨⟨ys.toArray,rfl,by simpa using H.v⟩,⟨H.holds,H.own,trivial⟩,H.kind,?_⟩⟩
 ·have f:=Tab.okPl ok h;unfold rU at f;split at f
  ·rename_i fs n;unfold Program.built;rw[g1,n];simp only[g3,f];simpa using m
  ·cases f
 ·have:∀b,(ts.flatMap ownR).count b=0:=fun b=>by have:=H.cnt b;rw[cX]at this;omega
  show ts.flatMap ownR=[];rw[XO];intro b hb;have:=this b;have:=WW.2 hb;omega
theorem Inv.swap {P Q:List (DT×Value)}(I:Inv cx D P tm w){d s:DSl}(c:D[t]?=some d)(i:∀s'∈D,¬cZ t s')(j:¬cZ t s)(hv:VS D s (tm.getD t undef))(l:MemS w s)(m:fa cx D s)(n:∀p∈Q,VT p.1 p.2∧Holds w p.1∧(p.1.isOwn=true→OwnT w p.1)∧(p.1.isOwn=false→∀x∈bl p.1,cx.far x))(o:∀b,(ownBl s).count b+bc Q b≤(ownBl d).count b+bc P b):Inv cx (D.set t s) Q tm w:=by
 have f:t<D.length:=by
  rcases WI t D.length with g|g
  ·exact g
  ·rw[WF g]at c;cases c
 have a:∀b,bF (D.set t s) b+bc Q b≤bF D b+bc P b:=by intro b;have k:=bY ownBl s b D t d c;have q:=o b;unfold bF;omega
 refine⟨by have:=I.size;simpa using this,fun u s' hs=>?_,fun s' hs=>?_,fun s' hs=>?_,n,fun b=>?_,fun b hb=>?_,I.frame⟩
 ·by_cases e:u=t
  ·subst e;rw[WN f]at hs;cases hs;exact AS j hv
  ·rw[WR (fun h=>e h.symm)]at hs;exact AS (i s' (WC hs)) (I.val u s' hs)
 ·rcases XC hs with h|rfl
  ·exact I.mem s' h
  ·exact l
 ·rcases XC hs with h|rfl
  ·exact sM (i s' h) (I.kind s' h)
  ·exact sM j m
 ·have k:=a b;have q:=I.once b;omega
 ·have k:=a b;exact I.bnd b (by omega)
theorem Inv.tup_refs {P:List (DT×Value)}(I:Inv cx D P tm w){rs:List (Bool×List DT)}(x:D[t]?=some (.tup rs)){s:DSl}(hv:VS D s y)(q:fa cx D s):¬cZ t s:=by
 have hc:∀c,aw D t c=none:=fun c=>by simp[aw,x,bh]
 have j:∀(us:List DT),(∀u∈us,bQ cx D u)→¬ ∃u∈us,∃c o d z r,u = .s (.lent t c o) d z r:=by rintro us h ⟨u,v,c,o,d,z,r,rfl⟩;obtain⟨t',m,_⟩:=h _ v;rw[hc]at m;cases m
 intro l;cases s with
 |any=>exact l
 |one u=>obtain⟨c,o,d,z,r,rfl⟩:=l;exact j [_] (fun u v=>q u (by simpa[an]using v)) ⟨_,Xe _,c,o,d,z,r,rfl⟩
 |agg ts=>exact j ts q l
 |box b ts=>exact j ts q l
 |al h c st lo len =>simp only[cZ]at l;subst l;obtain⟨d,z,n,a,⟨t',m,_⟩,_⟩:=hv;rw[hc]at m;cases m
 |pe h c st i off =>simp only[cZ]at l;subst l;obtain⟨d,z,n,⟨t',m,_⟩,_⟩:=hv;rw[hc]at m;cases m
 |pb h off =>simp only[cZ]at l;subst l;obtain⟨b,ts,m,_⟩:=hv;rw[x]at m;cases m
 |im k b ts off =>
  cases k with
  |own=>exact l
  |far=>exact l
  |lent h c o =>simp only[cZ]at l;subst l;obtain⟨t',m,_⟩:=q;rw[hc]at m;cases m
 |fni f caps=>exact l
 |clo f hs =>
  obtain⟨B,m,C,_⟩:=hv;obtain⟨i,hi⟩:=WL l;obtain⟨b,hb⟩:∃b,B[i]?=some b:=by
   have:i<hs.length:=by
    rcases WI i hs.length with g|g
    ·exact g
    ·rw[WF g]at hi;cases hi
   exact⟨_,WE (by omega)⟩
  obtain⟨ts,A⟩:=C i t b hi hb;rw[x]at A;cases A
 |tup rs =>obtain⟨p,F,u,v,c,o,d,z,r,e⟩:=l;exact j (an (.tup rs)) q ⟨u,WP.2 ⟨p,F,v⟩,c,o,d,z,r,e⟩
theorem OH {t:DT}(h:VT t y):VT t.hole y:=by
 cases t with
 |s k d z r=>cases k<;>first|exact h|exact h.one
 |_=>exact h
theorem Tf (t:DT):t.hole.isOwn=false:=by
 cases t with
 |s k d z r=>cases k<;>rfl
 |_=>rfl
theorem PF (t:DT):t.hole=t∨t.hole = .any:=by
 cases t with
 |s k d z r=>cases k<;>first|(left;rfl)|(right;rfl)
 |_=>left;rfl
theorem uE {t:DT}(a:t.noLent=true)(h:bQ cx D t):bQ cx D' t:=by
 cases t with
 |s k d z r=>cases k<;>first|exact h|cases a
 |_=>trivial
theorem ID (I:Inv cx D [] a.tmps w){dst:Option Nat}{x:Operand}(e:qa D dst x i=some D'):
  ∃y,(Instr.extract (a.eval x) i).run P w = .ok y w∧Inv cx D' [] (a.put dst y).tmps w:=by
 unfold qa at e;split at e
 case h_2=>cases e
 rename_i t d;split at e
 case h_2=>cases e
 rename_i rs hD;split at e
 case h_2=>cases e
 rename_i g ts hi;split at e
 case isFalse=>cases e
 rename_i hc;rw[WD]at e;obtain⟨s,hs,rfl⟩:=e;obtain⟨hd,J⟩:=hc;rw[WS]at J;have F:=WC hD;obtain⟨A,V,N,l⟩:=I.val t _ hD;have L:=I.mem _ F;have M:∀u∈an (.tup rs:DSl),bQ cx D u:=I.kind _ F;have X:i<rs.length:=by
  rcases WI i rs.length with q|q
  ·exact q
  ·rw[WF q]at hi;cases hi
 have Y:A.toList[i]?=some A.toList[i]:=WE (by omega);have B:=l i _ _ hi Y;obtain⟨ys,hv,K⟩:∃ys,cy g A.toList[i] ys∧VCells ts ys:=by
  unfold VPart at B;cases g with
  |true =>simp only[W8]at B;obtain⟨cs,n,o⟩:=B;exact⟨cs.toList,by simpa[cy]using n,o⟩
  |false =>simp only[W2,Xs]at B;obtain⟨t',n,o⟩:=B;subst n;exact⟨[A.toList[i]],by simp[cy],.one o⟩
 have m:∀u∈ts,u∈an (.tup rs:DSl):=fun u c=>WP.2 ⟨_,WC hi,c⟩
 have H:∀(j:Nat)(r:Bool×List DT),(rs.set i (g,ts.map T.hole))[j]?=some r→(j=i∧r=(g,ts.map T.hole))∨(j≠i∧rs[j]?=some r):=by
  intro j r hj;by_cases e:j=i
  ·subst e;rw[WN X]at hj;cases hj;exact .inl ⟨rfl,rfl⟩
  ·rw[WR (fun h=>e h.symm)]at hj;exact .inr ⟨e,hj⟩
 have f:∀u∈(rs.set i (g,ts.map T.hole)).flatMap (·.2),u∈an (.tup rs:DSl)∨u = .any:=by
  intro u c;obtain⟨r,hr,c⟩:=WP.1 c;obtain⟨j,hj⟩:=WL hr;rcases H j r hj with⟨_,rfl⟩|⟨_,hj⟩
  ·obtain⟨v,C,rfl⟩:=WU.1 c;rcases PF v with q|q
   ·rw[q];exact .inl (m v C)
   ·exact .inr q
  ·exact .inl (WP.2 ⟨r,WC hj,c⟩)
 have hV:VS D (.tup (rs.set i (g,ts.map T.hole))) (a.tmps.getD t undef):=by
  refine⟨A,V,by simpa using N,fun j r v hj C=>?_⟩;rcases H j r hj with⟨rfl,rfl⟩|⟨_,hj⟩
  ·have:=l j _ v hi C;unfold VPart at this ⊢;cases g with
   |true =>simp only[W8]at this ⊢;obtain⟨cs,n,o,h3⟩:=this;refine⟨cs,n,by simpa using o,fun k u y M V=>?_⟩;rw[WQ,WD]at M;obtain⟨u',Z,rfl⟩:=M;exact OH (h3 k u' y Z V)
   |false =>simp only[W2,Xs]at this ⊢;obtain⟨t',n,o⟩:=this;subst n;exact⟨t'.hole,rfl,OH o⟩
  ·exact l j r v hj C
 have hK:fa cx D (.tup (rs.set i (g,ts.map T.hole)):DSl):=fun u c=>by
  rcases f u c with q|q
  ·exact M u q
  ·subst q;trivial
 have hM:MemS w (.tup (rs.set i (g,ts.map T.hole)):DSl):=by
  refine⟨fun u c=>?_,fun u c W=>?_,trivial⟩
  ·rcases f u c with q|q
   ·exact L.1 u q
   ·subst q;exact .any
  ·rcases f u c with q|q
   ·exact L.2.1 u q W
   ·subst q;cases W
 have O:∀p∈ts.zip ys,p.1∈ts∧VT p.1 p.2:=by intro p B;obtain⟨j,hj⟩:=WL B;rw[Yy]at hj;exact⟨WC hj.1,K.2 j _ _ hj.1 hj.2⟩
 have R:=pB ts ys K.1;have I1:=I.swap (Q:=ts.zip ys) hD (fun s' S=>by obtain⟨u,c⟩:=WL S;exact I.tup_refs hD (I.val u s' c) (I.kind s' S)) (I.tup_refs hD hV hK) hV
  hM hK
  (fun p B=>by
   obtain⟨n,o⟩:=O p B;refine⟨o,L.1 _ (m _ n),L.2.1 _ (m _ n),fun W x hx=>?_⟩;have Z0:=M _ (m _ n);have Z1:=J _ n;generalize p.1=u at *;cases u with
   |v x=>simp[bl]at hx
   |any=>simp[bl]at hx
   |s k d z r=>cases k<;>first|exact Z0 x hx|(cases Z1;done)|(cases W;done))
  (fun b=>by
   have n:(ts.flatMap ownR).count b+(ownBl (.tup (rs.set i (g,ts.map T.hole)):DSl)).count b=((ts.map T.hole).flatMap ownR).count b+(ownBl (.tup rs:DSl)).count b :=
    bY (fun r:Bool×List DT=>r.2.flatMap ownR) (g,ts.map T.hole) b rs i _ hi
   have o:((ts.map T.hole).flatMap ownR)=[]:=by rw[WY];intro u c;obtain⟨v,_,rfl⟩:=WU.1 c;exact fK (Tf v)
   rw[o,Zx]at n;rw[R b,cX];omega)
 have G:Got cx (D.set t (.tup (rs.set i (g,ts.map T.hole)))) w (ts.zip ys) ts ys :=
  ⟨K,fun u c=>L.1 u (m u c),fun u c=>L.2.1 u (m u c),fun u c=>uE (J u c) (M u (m u c)),fun b=>by rw[R b];exact Xj _⟩
 have U:=I1.putGot (a:=a) G hv hs (dst:=some d) (fun t' h=>by cases h;simpa using hd) rfl;refine⟨A.toList[i],?_,U⟩;have Z2:a.eval (.tmp t)= .tuple A:=V;rw[Z2];have:A[i]?=some A.toList[i]:=by simp
 simp[Instr.extract,this]
section
variable  {δ β : Type}
def lE (M:Mk δ β)(D:St δ β)(z:Nat):List (Nat×Operand)→List (List (T δ))→Option (List (List (T δ)))
 |[],rows=>some rows
 |(i,x)::r,rows =>
  match cellsCopy M D x with
  |some (_,us)=>if us.length=z∧i<rows.length∧us.all T.fine=true then lE M D z r (rows.set i us)else none
  |none=>none
def fm (M:Mk δ β)(F:nv δ β)(tab:Tab)(D:St δ β)(dst:Option Nat)(t len:Nat)(a:List (Nat×Operand)):Option (St δ β):=
 match tab.ti t,dst with
 |some ⟨_,_,_,.slice e⟩,some d =>
  match tab.ti e with
  |some b =>
   if d<D.length∧b.size≠0∧b.zero.length=b.size∧len*b.size≤2 ^ 24 then
    (lE M D b.size a (List.replicate len (b.zero.map (T.inj M.nil)))).map fun rows=>bj D (some d) (.one (.s .own (F.row len) b.size rows))
   else none
  |none=>none
 |_,_=>none
def fo (M:Mk δ β)(F:nv δ β)(tab:Tab)(D:St δ β)(dst:Option Nat)(t:Nat)(l c:Operand):Option (St δ β):=
 match tab.ti t,dst,(opd M.nil D l).bind intOfSl,(opd M.nil D c).bind intOfSl with
 |some ⟨_,_,_,.slice e⟩,some d,some n,some k =>
  match tab.ti e with
  |some a =>
   if d<D.length∧a.size≠0∧a.zero.length=a.size then
    if 0≤n∧n≤k∧(a.bytes:Int)*k≤281474976710656∧k≤4611686018427387904 then
     some (bj D (some d) (.one (.s .own (F.row k.toNat) a.size (List.replicate n.toNat (a.zero.map (T.inj M.nil))))))
    else none
   else none
  |none=>none
 |_,_,_,_=>none
end
structure RowsAre (z:Nat)(rows:List (List DT))(cs:List Value):Prop where
 len:cs.length=rows.length*z
 row:∀(i:Nat)(row:List DT),rows[i]?=some row→row.length=z
 val:∀(i:Nat)(row:List DT)(j:Nat)(t:DT),rows[i]?=some row→row[j]?=some t→∃y,cs[i*z+j]?=some y∧VT t y
theorem RowsAre.set {rows:List (List DT)}{cs:List Value}(h:RowsAre z rows cs)(hi:i<rows.length)(hv:VCells us ys)(hz:us.length=z):
  i*z+ys.length≤cs.length∧RowsAre z (rows.set i us) (au cs (i*z) ys):=by
 have f:(i+1)*z≤rows.length*z:=XN _ hi;rw[X0,Nat.one_mul]at f;have e:=hv.1;have d:i*z+ys.length≤cs.length:=by rw[h.len];omega
 refine⟨d,⟨by rw[mb d,h.len];simp,fun b row a=>?_,fun b row j t a c=>?_⟩⟩
 ·by_cases q:b=i
  ·subst q;rw[WN hi]at a;cases a;exact hz
  ·rw[WR (fun g=>q g.symm)]at a;exact h.row b row a
 ·by_cases q:b=i
  ·subst q;rw[WN hi]at a;cases a;have l:j<us.length:=by
    rcases WI j us.length with g|g
    ·exact g
    ·rw[WF g]at c;cases c
   refine⟨ys[j]'(by omega),?_,hv.2 j t _ c (WE (by omega))⟩;rw[eV d,WM (by omega),Wz (by omega),show b*z+j-b*z=j by omega];exact WE (by omega)
  ·rw[WR (fun g=>q g.symm)]at a;obtain⟨y,m,n⟩:=h.val b row j t a c;refine⟨y,?_,n⟩;have k:j<z:=by
    have:=h.row b row a;rcases WI j row.length with g|g
    ·omega
    ·rw[WF g]at c;cases c
   rw[mc d ?_]
   ·exact m
   ·intro o;rcases YH b i with g|g|g
    ·have:=qf g k;omega
    ·exact q g
    ·have:=qf (j:=ys.length-1) (z:=z) g (by omega);omega
theorem RowsAre.init {e:List DT}{a:Array Value}(hv:VCells e a.toList)(hz:a.size≠0)(n:Nat):
  RowsAre a.size (List.replicate n e) ((Array.range (n*a.size)).map (fun i=>a[i % a.size]!)).toList:=by
 have l:e.length=a.size:=by have:=hv.1;simpa using this
 refine⟨by simp,fun i row hr=>?_,fun i row j t hr f=>?_⟩
 ·have:=WC hr;rw[XE this];exact l
 ·have h:i<n:=by
   rcases WI i n with g|g
   ·exact g
   ·rw[WF (by simpa using g)]at hr;cases hr
  have c:row=e:=XE (WC hr);subst c;have b:j<a.size:=by
   rcases WI j row.length with g|g
   ·omega
   ·rw[WF g]at f;cases f
  have k:i*a.size+j<n*a.size:=by have:(i+1)*a.size≤n*a.size:=XN _ h;rw[X0]at this;omega
  have d:(i*a.size+j) % a.size=j:=by rw[Nat.mul_comm,Nat.mul_add_mod];exact Nat.mod_eq_of_lt b
  refine⟨a[j],?_,hv.2 j t _ f (by simp[b])⟩;simp only[Array.toList_map,Array.toList_range,WQ,XS k,WB,d];simp[b]
structure DF (w:World)(t:DT):Prop where
 fine:t.fine=true
 holds:Holds w t
 own:t.isOwn=true→OwnT w t
 bl:bl t=[]
theorem Got.bare {ts:List DT}(G:Got cx D w [] ts ys)(hf:∀t∈ts,t.fine=true):∀t∈ts,DF w t:=by
 intro t a;refine⟨hf t a,G.holds t a,G.own t a,?_⟩;rcases wO (hf t a)with h|h
 ·rw[XO];intro b hb;have c:=G.cnt b;rw[cX]at c;have d:0<(ts.flatMap ownR).count b:=WW.2 (WP.2 ⟨t,a,by simp only[ownR,h,W8];exact hb⟩);omega
 ·exact h
theorem mX {P:List (DT×Value)}(H:Got cx D w P us ys)(hv:cy g y ys):y.cells=ys.toArray:=by
 cases g with
 |true=>simp only[cy,W8]at hv;rw[hv];rfl
 |false =>
  have:ys=[y]:=by simpa[cy]using hv
  have a:=H.v.cells1 _ (by rw[this];simp:y∈ys);rw[this];cases y<;>first|rfl|(simp[Value.oneCell']at a)
theorem qr {cx:Cx}{D:DSt}{a:Act}{w:World}(I:Inv cx D [] a.tmps w)(z:Nat):∀(c:List (Nat×Operand)){rows b:List (List DT)}{cs:List Value},RowsAre z rows cs →
  (∀row∈rows,∀t∈row,DF w t)→lE mkD D z c rows=some b →
  ∃d,Instr.fill (fun i=>some (i*z,z)) cs.toArray (c.map fun p=>(p.1,a.eval p.2))=some d.toArray∧RowsAre z b d∧b.length=rows.length∧∀row∈b,∀t∈row,DF w t
 |[],rows,b,cs,R,B,e=>by cases e;exact⟨cs,rfl,R,rfl,B⟩
 |(i,x)::r,rows,b,cs,R,B,e=>by
  simp only[lE]at e;split at e
  case h_2=>cases e
  rename_i g us hc;split at e
  case isFalse=>cases e
  rename_i h;obtain⟨ys,H,hv⟩:=I.cellsCopy hc;have f:=mX H hv;have hf:∀t∈us,t.fine=true:=by have:=h.2.2;rwa [WS]at this
  obtain⟨j,l⟩:=R.set h.2.1 H.v h.1;obtain⟨d,m,n,o,s⟩:=qr I z r l (fun row u t k=>by
   rcases XC u with q|q
   ·exact B row q t k
   ·subst q;exact H.bare hf t k) e
  refine⟨d,?_,n,by rw[o];simp,s⟩;have y:=H.v.1;simp only[WT,Instr.fill,f];rw[WM (by simp;omega)];rw[iS ys.toArray (i*z) cs.toArray (by simpa using j)];simpa using m
theorem DH (ok:bz P tab)(I:Inv cx D [] a.tmps w){dst:Option Nat}{len:Nat}{c:Array (Nat×Operand)}(e:fm mkD (frD w) tab D dst t len c.toList=some D'):∃y w',(Instr.buildSlice t len (c.map fun(i,x)=>(i,a.eval x))).run P w = .ok y w'∧Inv cx D' [] (a.put dst y).tmps w':=by
 unfold fm at e;split at e
 case h_2=>cases e
 rename_i sz U ze m d H;split at e
 case h_2=>cases e
 rename_i l s;split at e
 case isFalse=>cases e
 rename_i hc;rw[WD]at e;obtain⟨rows,V,rfl⟩:=e;obtain⟨hd,J,K,O⟩:=hc;have W:=gM (Tab.ok ok H) rfl;obtain⟨z,g1,L,g3⟩:=yG (Tab.ok ok s) w;have hs:=mC (Tab.ok ok s) w;have G:=lW (P:=P) (t:=m) (w:=w) (cx:=cx) (D:=D) (ys:=z.cells.toList) g3;rw[←L]at G;have A:z.cells.size=l.size:=by rw[←K,L];simp[en]
 have q:∀t∈l.zero.map (T.inj nilD),t.fine=true:=by intro t r;rw[L]at r;simp only[WU,en,XK]at r;obtain⟨u,⟨j,hj,rfl⟩,rfl⟩:=r;unfold zT;split<;>rfl
 have Q:=RowsAre.init G.v (by omega) len;rw[A]at Q;obtain⟨f,f1,R,f3,B⟩:=qr I l.size c.toList Q (fun row M t r=>by have:=XE M;subst this;exact G.bare q t r) V;have k:rows.length=len:=by rw[f3];simp
 have C:(Instr.buildSlice t len (c.map fun(i,x)=>(i,a.eval x))).run P w = .ok (.slice (some ⟨w.heap.size,0,none⟩) len len) (w.alloc (.cells f.toArray m)):=by
  have n:Instr.fill (fun i=>some (i*l.size,l.size)) ((Array.range (len*l.size)).map fun i=>z.cells[i % l.size]!) (c.toList.map fun p=>(p.1,a.eval p.2))=some f.toArray:=by rw[Array.toArray_toList]at f1;exact f1
  simp only[Instr.buildSlice,run_underlying W,Sem.run_bind,Result.andThen_ok,hs];rw[WM (by omega)];by_cases F:len*l.size=0
  ·have X:len=0:=by
    rcases Nat.mul_eq_zero.1 F with h|h
    ·exact h
    ·exact absurd h J
   rw[F]at n;have Y:(Array.range 0).map (fun i=>z.cells[i % l.size]!)= #[]:=by simp
   rw[Y]at n;simp only[F,W8,Sem.run_pure,Result.andThen_ok];have Z:∀N:Array Value,(Array.range 0).map (fun i=>N[i % N.size]!)= #[]:=fun N=>by simp
   simp only[Z];simp[n,kR]
  ·simp[F,g1,A,n,kR]
 have g:=Grew.alloc w (.cells f.toArray m);have o:(w.alloc (.cells f.toArray m)).heap[w.heap.size]?=some (.cells f.toArray m (0,0)):=by show(w.heap.push _)[w.heap.size]?=_;simp
 have S:∀(i:Nat)(row:List DT)(j:Nat)(t:DT),rows[i]?=some row→row[j]?=some t→DF w t:=fun i row j t hi hj=>B row (WC hi) t (WC hj)
 have hH:Holds (w.alloc (.cells f.toArray m)) (.s .own ((frD w).row len) l.size rows):=by refine .s _ _ _ _ rfl rfl _ m (0,0) o (by simp[frD,k]) R.row (fun i row j t hi hj=>?_) (fun i row j t hi hj=>(S i row j t hi hj).holds.frame fun b _ hb=>g.same b hb);obtain⟨y,y1,y2⟩:=R.val i row j t hi hj;exact⟨y,by simpa[frD]using y1,y2⟩
 have hO:OwnT (w.alloc (.cells f.toArray m)) (.s .own ((frD w).row len) l.size rows):=by refine .s _ _ _ rfl rfl _ m 0 0 o (by simp[frD,k]) (by simp[frD,R.len,k]) (fun x _ _ h=>by omega) (fun i row j t hi hj=>?_);have:=S i row j t hi hj;exact(sN this.fine this.own).frame fun b _ hb=>g.same b hb
 refine⟨_,_,C,I.newRows (P:=[]) g (by simp) (d:=(frD w).row len) ⟨rfl,rfl⟩ hH hO (fun b=>?_) hd (by simp[VT,Dec.addr,frD,k])⟩;have:rows.flatMap (fun x=>x.flatMap Am.bl)=[]:=by rw[WY];intro row M;rw[WY];intro t r;exact(B row M t r).bl
 rw[this];simp
structure QU (w w':World)(t:DT)(v:Value):Prop where
 val:VT t v
 holds:Holds w' t
 own:OwnT w' t
 once:∀b,(bl t).count b≤1
 new:∀b∈bl t,w.heap.size≤b∧b<w'.heap.size
theorem Gc (ok:bz P tab)(I:Inv cx D [] a.tmps w){dst:Option Nat}{len:Nat}{c:Array (Nat×Operand)}(e:fm mkD (frD w) tab D dst t len c.toList=some D'):∃y w' d Q z rows,dst=some d∧D'=bj D (some d) (.one (.s .own Q z rows))∧(Instr.buildSlice t len (c.map fun(i,x)=>(i,a.eval x))).run P w = .ok y w'∧Grew w w'∧QU w w' (.s .own Q z rows) y:=by
 unfold fm at e;split at e
 case h_2=>cases e
 rename_i sz W ze m d J;split at e
 case h_2=>cases e
 rename_i l A;split at e
 case isFalse=>cases e
 rename_i hc;rw[WD]at e;obtain⟨rows,X,rfl⟩:=e;obtain⟨hd,K,L,S⟩:=hc;have Y:=gM (Tab.ok ok J) rfl;obtain⟨z,g1,M,g3⟩:=yG (Tab.ok ok A) w;have hs:=mC (Tab.ok ok A) w;have G:=lW (P:=P) (t:=m) (w:=w) (cx:=cx) (D:=D) (ys:=z.cells.toList) g3;rw[←M]at G;have C:z.cells.size=l.size:=by rw[←L,M];simp[en]
 have r:∀t∈l.zero.map (T.inj nilD),t.fine=true:=by intro t s;rw[M]at s;simp only[WU,en,XK]at s;obtain⟨u,⟨j,hj,rfl⟩,rfl⟩:=s;unfold zT;split<;>rfl
 have U:=RowsAre.init G.v (by omega) len;rw[C]at U;obtain⟨f,f1,R,f3,B⟩:=qr I l.size c.toList U (fun row N t s=>by have:=XE N;subst this;exact G.bare r t s) X;have k:rows.length=len:=by rw[f3];simp
 have F:(Instr.buildSlice t len (c.map fun(i,x)=>(i,a.eval x))).run P w = .ok (.slice (some ⟨w.heap.size,0,none⟩) len len) (w.alloc (.cells f.toArray m)):=by
  have n:Instr.fill (fun i=>some (i*l.size,l.size)) ((Array.range (len*l.size)).map fun i=>z.cells[i % l.size]!) (c.toList.map fun p=>(p.1,a.eval p.2))=some f.toArray:=by rw[Array.toArray_toList]at f1;exact f1
  simp only[Instr.buildSlice,run_underlying Y,Sem.run_bind,Result.andThen_ok,hs];rw[WM (by omega)];by_cases H:len*l.size=0
  ·have Z:len=0:=by
    rcases Nat.mul_eq_zero.1 H with h|h
    ·exact h
    ·exact absurd h K
   rw[H]at n;have e0:(Array.range 0).map (fun i=>z.cells[i % l.size]!)= #[]:=by simp
   rw[e0]at n;simp only[H,W8,Sem.run_pure,Result.andThen_ok];have e1:∀O:Array Value,(Array.range 0).map (fun i=>O[i % O.size]!)= #[]:=fun O=>by simp
   simp only[e1];simp[n,kR]
  ·simp[H,g1,C,n,kR]
 have g:=Grew.alloc w (.cells f.toArray m);have o:(w.alloc (.cells f.toArray m)).heap[w.heap.size]?=some (.cells f.toArray m (0,0)):=by show(w.heap.push _)[w.heap.size]?=_;simp
 have V:∀(i:Nat)(row:List DT)(j:Nat)(t:DT),rows[i]?=some row→row[j]?=some t→DF w t:=fun i row j t hi hj=>B row (WC hi) t (WC hj)
 have hH:Holds (w.alloc (.cells f.toArray m)) (.s .own ((frD w).row len) l.size rows):=by refine .s _ _ _ _ rfl rfl _ m (0,0) o (by simp[frD,k]) R.row (fun i row j t hi hj=>?_) (fun i row j t hi hj=>(V i row j t hi hj).holds.frame fun b _ hb=>g.same b hb);obtain⟨y,y1,y2⟩:=R.val i row j t hi hj;exact⟨y,by simpa[frD]using y1,y2⟩
 have hO:OwnT (w.alloc (.cells f.toArray m)) (.s .own ((frD w).row len) l.size rows):=by refine .s _ _ _ rfl rfl _ m 0 0 o (by simp[frD,k]) (by simp[frD,R.len,k]) (fun x _ _ h=>by omega) (fun i row j t hi hj=>?_);have:=V i row j t hi hj;exact(sN this.fine this.own).frame fun b _ hb=>g.same b hb
 have q:rows.flatMap (fun x=>x.flatMap Am.bl)=[]:=by rw[WY];intro row N;rw[WY];intro t s;exact(B row N t s).bl
 refine⟨_,_,d,(frD w).row len,l.size,rows,rfl,rfl,F,g,⟨by simp[VT,Dec.addr,frD,k],hH,hO,?_,fun b hb=>?_⟩⟩
 ·intro b;rw[cS,q];simp only[frD,W2,Xs,WX];rw[List.count_singleton];split<;>omega
 ·rw[cS,q]at hb;simp[frD]at hb;subst hb;exact⟨Xj _,by simp⟩
theorem Inv.opInt (I:Inv cx D [] a.tmps w){x:Operand}{n:Int}(h:(Am.opd mkD.nil D x).bind intOfSl=some n):∃k,a.eval x = .int k n:=by
 rw[WA]at h;obtain⟨s,c,b⟩:=h;unfold intOfSl at b;split at b
 ·rename_i k n';cases b;exact⟨k,(I.opd c).val.1⟩
 ·cases b
theorem Fy (ok:bz P tab)(I:Inv cx D [] a.tmps w){dst:Option Nat}{l c:Operand}(e:fo mkD (frD w) tab D dst t l c=some D'):∃y w',(Instr.makeSlice t (a.eval l) (a.eval c)).run P w = .ok y w'∧Inv cx D' [] (a.put dst y).tmps w':=by
 unfold fo at e;split at e
 case h_2=>cases e
 rename_i sz U ze o d n k C V F;split at e
 case h_2=>cases e
 rename_i m H;split at e
 case isFalse=>cases e
 rename_i hc;split at e
 case isFalse=>cases e
 rename_i W;cases e;obtain⟨hd,X,J⟩:=hc;obtain⟨Y,Z,n3,n4⟩:=W;have hu:=gM (Tab.ok ok C) rfl;obtain⟨i,d',z,g1,Z0,K,g4,g5,L,g7,g3⟩:=iq (Tab.ok ok H);have G:=lW (P:=P) (t:=o) (w:=w) (cx:=cx) (D:=D) (ys:=z.cells.toList) g3;rw[←L]at G;have A:z.cells.size=m.size:=by rw[←J,L];simp[en]
 have s:∀t∈m.zero.map (T.inj nilD),t.fine=true:=by intro t B;rw[L]at B;simp only[WU,en,XK]at B;obtain⟨u,⟨j,hj,rfl⟩,rfl⟩:=B;unfold zT;split<;>rfl
 obtain⟨kl,M⟩:=I.opInt V;obtain⟨kc,N⟩:=I.opInt F;have f:=run_make w t o i z hu g1 K kl kc n k Y Z (by rw[g5];exact n3) (by omega);rw[←M, ←N]at f;have R:=RowsAre.init G.v (by omega) k.toNat;have O:(madeCells z.cells (k.toNat*i.size))=((Array.range (k.toNat*z.cells.size)).map (fun i=>z.cells[i % z.cells.size]!)):=by unfold madeCells;rw[g4,A]
 rw[O]at f;rw[A]at R f;generalize p:(Array.range (k.toNat*m.size)).map (fun i=>z.cells[i % m.size]!)=cells at R f;have g:=Grew.alloc w (.cells cells o);have q:(w.alloc (.cells cells o)).heap[w.heap.size]?=some (.cells cells o (0,0)):=by show(w.heap.push _)[w.heap.size]?=_;simp
 have Z1:n.toNat≤k.toNat:=by omega
 have r:∀(i:Nat)(row:List DT),(List.replicate n.toNat (m.zero.map (T.inj nilD)))[i]?=some row→(List.replicate k.toNat (m.zero.map (T.inj nilD)))[i]?=some row:=by
  intro i row h;rw[YC]at h ⊢;split at h
  ·rw[Wz (by omega)];exact h
  ·cases h
 have Q:∀(i:Nat)(row:List DT)(j:Nat)(t:DT),(List.replicate n.toNat (m.zero.map (T.inj nilD)))[i]?=some row→row[j]?=some t→DF w t:=fun i row j t hi hj=>by have:=XE (WC hi);subst this;exact G.bare s t (WC hj)
 have S:cells.size=k.toNat*m.size:=by rw[←p];simp
 have hH:Holds (w.alloc (.cells cells o)) (.s .own ((frD w).row k.toNat) m.size (List.replicate n.toNat (m.zero.map (T.inj nilD)))):=by refine .s _ _ _ _ rfl rfl _ o (0,0) q (by simp[frD];omega) (fun i row h=>R.row i row (r i row h)) (fun i row j t hi hj=>?_) (fun i row j t hi hj=>(Q i row j t hi hj).holds.frame fun b _ hb=>g.same b hb);obtain⟨y,y1,y2⟩:=R.val i row j t (r i row hi) hj;exact⟨y,by simpa[frD]using y1,y2⟩
 have hO:OwnT (w.alloc (.cells cells o)) (.s .own ((frD w).row k.toNat) m.size (List.replicate n.toNat (m.zero.map (T.inj nilD)))):=by refine .s _ _ _ rfl rfl _ o 0 0 q (by simp[frD];omega) (by simp[frD,S]) (fun x _ _ h=>by omega) (fun i row j t hi hj=>?_);have:=Q i row j t hi hj;exact(sN this.fine this.own).frame fun b _ hb=>g.same b hb
 refine⟨_,_,f,I.newRows (P:=[]) g (by simp) (d:=(frD w).row k.toNat) ⟨rfl,rfl⟩ hH hO (fun b=>?_) hd (by simp[VT,Dec.addr,frD])⟩;have:(List.replicate n.toNat (m.zero.map (T.inj nilD))).flatMap (fun x=>x.flatMap Am.bl)=[]:=by rw[WY];intro row hr;rw[WY];intro t B;obtain⟨i,hi⟩:=WL hr;obtain⟨j,hj⟩:=WL B;exact(Q i row j t hi hj).bl
 rw[this];simp
end
theorem Holds.cells {rows:List (List DT)}(h:Holds w (.s k d z rows))(x:0<z):
  ∃cs:List Value,RowsAre z rows cs∧(∀u∈cs,u.oneCell'=true)∧(rows=[]∧cs=[]∨d.nil=false∧d.sp=none∧∀j u,cs[j]?=some u→w.cell? ⟨d.b,d.o+j,none⟩=some u):=by
 cases h with
 |e=>exact⟨[],⟨by simp,fun i r h=>by simp at h,fun i r j t h=>by simp at h⟩,fun u h=>(by cases h),.inl ⟨rfl,rfl⟩⟩
 |s _ _ _ _ q hsp c e f hb hcap hz hv hh =>
  have at_:∀n,n<rows.length*z→∃t y,c[d.o+n]?=some y∧VT t y:=by
   intro n a;have hi:n/z<rows.length:=Nat.div_lt_of_lt_mul (by rw[Nat.mul_comm];exact a);have m:n % z<z:=Nat.mod_lt _ x;have D:=hz (n/z) rows[n/z] (WE hi);obtain⟨y,l,p⟩:=hv (n/z) rows[n/z] (n % z) (rows[n/z][n % z]'(by omega)) (WE hi) (WE (by omega));have:n/z*z+n % z=n:=by rw[Nat.mul_comm];exact Nat.div_add_mod n z
   rw[XZ,this]at l;exact⟨_,y,l,p⟩
  refine⟨(List.range (rows.length*z)).map fun n=>(c[d.o+n]?).getD undef,⟨by simp,hz,fun i row j t hi m=>?_⟩,fun u C=>?_,.inr ⟨q,hsp,fun j u m=>?_⟩⟩
  ·obtain⟨y,l,p⟩:=hv i row j t hi m;refine⟨y,?_,p⟩;have A:i<rows.length:=by
    rcases WI i rows.length with g|g
    ·exact g
    ·rw[WF g]at hi;cases hi
   have B:j<z:=by
    have:=hz i row hi;rcases WI j row.length with g|g
    ·omega
    ·rw[WF g]at m;cases m
   have:=qf A B;rw[WQ,XS this,WB, ←XZ,l];rfl
  ·simp only[WU,Xm]at C;obtain⟨n,a,rfl⟩:=C;obtain⟨t,y,l,p⟩:=at_ n a;rw[l];exact p.one
  ·rw[WQ,WD]at m;obtain⟨n,a,rfl⟩:=m;have v:j<rows.length*z:=by
    rcases WI j (rows.length*z)with g|g
    ·exact g
    ·rw[WF (by simpa using g)]at a;cases a
   rw[XS v]at a;cases a;obtain⟨t,y,l,p⟩:=at_ j v;rw[ux hb,l];rfl
theorem RowsAre.append {rows a:List (List DT)}{cs b:List Value}(h:RowsAre z rows cs)(g:RowsAre z a b):RowsAre z (rows++a) (cs++b):=by
 refine⟨by simp[h.len,g.len,X0],fun i row hi=>?_,fun i row j t hi e=>?_⟩
 ·rcases WI i rows.length with q|q
  ·rw[Xr q]at hi;exact h.row i row hi
  ·rw[Xp q]at hi;exact g.row _ row hi
 ·rcases WI i rows.length with q|q
  ·rw[Xr q]at hi;obtain⟨y,c,d⟩:=h.val i row j t hi e;refine⟨y,?_,d⟩;rw[Xr]
   ·exact c
   ·rcases WI (i*z+j) cs.length with p|p
    ·exact p
    ·rw[WF p]at c;cases c
  ·rw[Xp q]at hi;obtain⟨y,c,d⟩:=g.val _ row j t hi e;refine⟨y,?_,d⟩;have f:(i-rows.length)*z=i*z-rows.length*z:=Nat.sub_mul _ _ _;have k:rows.length*z≤i*z:=XN _ q;rw[Xp (by rw[h.len];omega),h.len];rw[show i*z+j-rows.length*z=(i-rows.length)*z+j by omega];exact c
structure JU (B:Nat)(w w':World):Prop where
 os:w'.os=w.os
 tape:w'.tape=w.tape
 output:w'.output=w.output
 size:w.heap.size≤w'.heap.size
 same:∀b,b≠B→b<w.heap.size→w'.heap[b]?=w.heap[b]?
structure Ug (B:Nat)(s:DSl):Prop where
 roots:∀v∈an s,B∉bl v
 rootsO:∀v∈Am.rootsO s,B∉bl v
 head:match s with| .box b _=>b.1≠B| .im _ b _ _=>b.1≠B| .fni _ caps=>∀p∈caps,p.1.1≠B|_=>True
theorem Lies.grewX (g:JU B w w'){b:Nat×Nat}(hb:b.1≠B){ts:List DT}(h:Lies w b ts):Lies w' b ts:=by obtain⟨c,e,f,a,hv⟩:=h;exact⟨c,e,f,by rw[g.same _ hb (d8 a)];exact a,hv⟩
theorem MemS.grewX (g:JU B w w'){s:DSl}(a:Ug B s)(h:MemS w s):MemS w' s:=by
 obtain⟨m,n,d⟩:=h;refine⟨fun t i=>(m t i).frame fun b hb j=>g.same b (fun e=>a.roots t i (e ▸ hb)) j,fun t i o=>(n t i o).frame fun b hb j=>g.same b (fun e=>a.rootsO t i (e ▸ hb)) j,?_⟩;cases s with
 |box b ts =>refine⟨d.1.grewX g a.head,fun c e lo hi hb=>?_⟩;rw[g.same _ a.head d.1.lt]at hb;exact d.2 c e lo hi hb
 |im k b ts off=>exact Lies.grewX g a.head d
 |fni f caps=>exact fun p l=>(d p l).grewX g (a.head p l)
 |_=>trivial
theorem Inv.pend_out (I:Inv cx D P tm w)(M:0<bc P B):cx.may B∧B<w.heap.size∧∀s∈D,Ug B s:=by
 have a:=I.bnd B (by omega);refine⟨a.1,a.2,fun s hs=>?_⟩;have m:∀s'∈D,B∉ownBl s':=by intro s' q hb;have g:=cQ q hb;have u:=I.once B;omega
 have C:∀v:DT,bQ cx D v→(v.isOwn=true→B∉bl v)→B∉bl v:=by
  intro v l n hb;cases v with
  |v x=>simp[bl]at hb
  |any=>simp[bl]at hb
  |s k d z r =>
   cases k with
   |own=>exact n rfl hb
   |far=>exact Cx.far_not (l B hb) a.1
   |lent h c J =>obtain⟨t',g,u,G,K⟩:=l;obtain⟨s',g1,F,g3,H,g4⟩:=cj g;exact m s' F (g4 u B (G B hb))
 have l:=I.kind s hs;have y:=m s hs;cases s with
 |any=>exact⟨fun v hv=>by simp[an]at hv,fun v hv=>by simp[Am.rootsO]at hv,trivial⟩
 |one t =>have g:B∉bl t:=C t (l t (by simp[an])) (fun n hb=>y (by simp[ownBl,ownR,n,hb]));exact⟨fun v hv=>by simp[an]at hv;subst hv;exact g,fun v hv=>by simp[Am.rootsO]at hv;subst hv;exact g,trivial⟩
 |agg ts =>
  have g:∀t∈ts,B∉bl t:=fun t j=>C t (l t j) (fun n hb=>y (by simp only[ownBl,WP];exact⟨t,j,by simp[ownR,n,hb]⟩))
  exact⟨g,g,trivial⟩
 |box b ts =>
  have g:∀t∈ts,B∉bl t:=fun t j=>C t (l t j) (fun n hb=>y (by simp only[ownBl,WZ,WP];exact .inr ⟨t,j,by simp[ownR,n,hb]⟩))
  exact⟨g,g,fun e=>y (by simp[ownBl,e])⟩
 |tup rs =>
  have g:∀t∈rs.flatMap (·.2),B∉bl t:=fun t j=>C t (l t j) (fun n hb=>y (by simp only[WP]at j;obtain⟨p,A,j⟩:=j;simp only[ownBl,WP];exact⟨p,A,t,j,by simp[ownR,n,hb]⟩))
  exact⟨g,g,trivial⟩
 |al h c st lo len=>exact⟨fun v hv=>by simp[an]at hv,fun v hv=>by simp[Am.rootsO]at hv,trivial⟩
 |pb h off=>exact⟨fun v hv=>by simp[an]at hv,fun v hv=>by simp[Am.rootsO]at hv,trivial⟩
 |pe h c st i off=>exact⟨fun v hv=>by simp[an]at hv,fun v hv=>by simp[Am.rootsO]at hv,trivial⟩
 |clo f q=>exact⟨fun v hv=>by simp[an]at hv,fun v hv=>by simp[Am.rootsO]at hv,trivial⟩
 |im k b ts off =>
  have o:qk cx D k b.1 ts:=l;cases k with
  |own=>exact o.elim
  |far=>exact⟨fun v hv hb=>Cx.far_not (o.2 v hv B hb) a.1,fun v hv=>by simp[Am.rootsO]at hv,fun e=>Cx.far_not (e ▸ o.1) a.1⟩
  |lent h c J =>obtain⟨t',g,u,G,L⟩:=o;obtain⟨s',g1,F,g3,H,g4⟩:=cj g;exact⟨fun v hv hb=>m s' F (g4 u B (L v hv B hb)),fun v hv=>by simp[Am.rootsO]at hv,fun e=>m s' F (g4 u B (e ▸ G))⟩
 |fni f caps =>refine⟨fun v hv hb=>?_,fun v hv=>by simp[Am.rootsO]at hv,fun p A e=>Cx.far_not (e ▸ (l p A).1) a.1⟩;simp only[an,WP]at hv;obtain⟨p,A,hv⟩:=hv;exact Cx.far_not ((l p A).2 v hv B hb) a.1
theorem Inv.pendWrite (I:Inv cx D P tm w)(k:0<bc P B)(g:JU B w w'){t:DT}(hv:VT t y)(hh:Holds w' t)(l:OwnT w' t)(a:t.isOwn=true)(hc:∀b,(bl t).count b≤bc P b):Inv cx D [(t,y)] tm w':=by
 obtain⟨c,m,d⟩:=I.pend_out k;have i:∀b,bc [(t,y)] b≤bc P b:=fun b=>by simp only[bc,W1,Yr,WX,ownR,a,W8];exact hc b
 refine⟨I.size,I.val,fun s hs=>(I.mem s hs).grewX g (d s hs),I.kind,fun p j=>?_,fun b=>?_,fun b hb=>?_,?_⟩
 ·rw[WG]at j;subst j;exact⟨hv,hh,fun _=>l,fun h=>by rw[a]at h;cases h⟩
 ·have:=I.once b;have:=i b;omega
 ·have:=i b;have:=I.bnd b (by omega);exact⟨this.1,Xf this.2 g.size⟩
 ·have f:=I.frame;exact⟨g.os.trans f.os,g.tape.trans f.tape,g.output.trans f.output,Xu f.size g.size,fun b hb=>by rw[g.same b (fun e=>Cx.far_not (e ▸ hb) c) (Xf hb.1 f.size)];exact f.same b hb⟩
end Go.Proofs.YtlgddjncnedkgaaGreatDoor.Am
