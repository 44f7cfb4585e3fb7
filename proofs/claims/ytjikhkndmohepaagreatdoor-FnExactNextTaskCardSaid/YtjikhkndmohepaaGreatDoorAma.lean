/- An abstract machine over trees, and that its steps are sound, a part. Conditions: none. -/
import Derived.Calls
import Derived.Tactics
import Derived.Laws.StructEq
import Derived.Laws.Small
import Derived.Laws.Slices
import Derived.Laws.Strings
import Derived.Laws.Pointers
import Derived.Laws.Build
import Derived.Laws.Cells
import Derived.Laws.IdiomCopy
import Derived.Deep.Slices
import Derived.Deep.OwnRows
import Derived.Laws.MakeOwn
import Derived.Laws.Tables
import Derived.Deep.AppendSrc
namespace Go.Proofs.YtjikhkndmohepaaGreatDoor.Am
open Go
set_option linter.unusedVariables false
set_option linter.unusedSimpArgs false
abbrev V9:=@Option.bind_some
abbrev Wa:=@if_pos
abbrev Wb:=@Option.bind_eq_some_iff
abbrev Wc:=@Option.map_some
abbrev Wd:=@List.mem_of_getElem?
abbrev We:=@Option.map_eq_some_iff
abbrev Wg:=@List.getElem?_eq_getElem
abbrev Wh:=@List.getElem?_eq_none
abbrev Wi:=@decide_eq_true
abbrev Wj:=@decide_eq_false
abbrev Wk:=@List.mem_singleton
abbrev Wl:=@Nat.lt_or_ge
abbrev Wm:=@List.getElem?_of_mem
abbrev Wn:=@cond_true
abbrev Wo:=@if_neg
abbrev Wp:=@List.getElem?_set_self
abbrev Wq:=@List.mem_flatMap
abbrev Wr:=@List.getElem?_map
abbrev Ws:=@List.getElem?_set_ne
abbrev Wt:=@List.all_eq_true
abbrev Wu:=@cond_false
abbrev Wv:=@List.map_cons
abbrev Ww:=@Bool.and_eq_true
abbrev Wx:=@List.mem_map
abbrev Wy:=@congrArg
abbrev Wz:=@List.count_pos_iff
abbrev WA:=@List.flatMap_cons
abbrev WB:=@List.flatMap_eq_nil_iff
abbrev WC:=@Bool.false_eq_true
abbrev WD:=@List.count_append
abbrev WE:=@List.mem_cons
abbrev WF:=@List.mem_append
abbrev WG:=@List.append_nil
abbrev WH:=@List.length_map
abbrev WI:=@List.nil_append
abbrev WJ:=@Bool.true_and
abbrev WK:=@List.drop_zero
abbrev WL:=@List.length_cons
abbrev WM:=@List.map_nil
abbrev WN:=@if_true
abbrev WO:=@Option.some.injEq
abbrev WP:=@List.mem_singleton_self
abbrev WQ:=@Nat.lt_of_lt_of_le
abbrev WR:=@Array.getElem?_eq_getElem
abbrev WS:=@List.take_length
abbrev WT:=@List.map_congr_left
abbrev WU:=@Nat.le_refl
abbrev WV:=@List.drop_eq_nil_of_le
abbrev WW:=@List.map_map
abbrev WX:=@Classical.byContradiction
abbrev WY:=@Array.getD_eq_getD_getElem?
abbrev WZ:=@List.getElem?_append_right
abbrev W0:=@List.mem_range
abbrev W1:=@List.getElem?_append_left
abbrev W2:=@if_false
abbrev W3:=@decide_eq_true_eq
abbrev W4:=@Nat.eq_zero_or_pos
abbrev W5:=@beq_eq_false_iff_ne
abbrev W6:=@Nat.le_trans
abbrev W7:=@List.getElem?_cons_zero
abbrev W8:=@List.map_append
abbrev W9:=@bne_self_eq_false
abbrev Xa:=@List.getElem?_drop
abbrev Xb:=@Int.le_refl
abbrev Xc:=@Option.map_map
abbrev Xd:=@Bool.not_true
abbrev Xe:=@Array.getElem?_eq_none
abbrev Xf:=@List.eq_of_mem_replicate
abbrev Xg:=@Bool.false_ne_true
abbrev Xh:=@List.all_cons
abbrev Xi:=@List.all_map
abbrev Xj:=@List.mem_or_eq_of_mem_set
abbrev Xk:=@List.drop_eq_getElem_cons
abbrev Xl:=@List.getElem?_take
abbrev Xm:=@List.mem_mapIdx
abbrev Xn:=@List.count_cons
abbrev Xo:=@List.contains_iff_mem
abbrev Xp:=@List.length_eq_zero_iff
abbrev Xq:=@Nat.mul_le_mul_right
abbrev Xr:=@List.eq_nil_iff_forall_not_mem
abbrev Xs:=@List.getElem_mem
abbrev Xt:=@List.flatMap_append
abbrev Xu:=@List.getElem?_range
abbrev Xv:=@Int.toNat_natCast
abbrev Xw:=@List.mem_of_mem_drop
abbrev Xx:=@List.any_eq_true
abbrev Xy:=@List.filter_cons
abbrev Xz:=@Nat.add_assoc
abbrev XA:=@Nat.add_mul
abbrev XB:=@List.take_of_length_le
abbrev XC:=@List.ext_getElem?
abbrev XD:=@List.foldl_cons
abbrev XE:=@List.cons.injEq
abbrev XF:=@List.singleton_append
abbrev XG:=@UInt8.lt_iff_toNat_lt
abbrev XH:=@Array.toList_inj
abbrev XI:=@List.mem_filterMap
abbrev XJ:=@List.mem_cons_of_mem
abbrev XK:=@List.mem_of_mem_take
abbrev XL:=@Bool.and_false
abbrev XM:=@List.append_assoc
abbrev XN:=@List.mem_filter
abbrev XO:=@List.mem_map_of_mem
abbrev XP:=@Nat.lt_irrefl
abbrev XQ:=@Array.getElem?_append_left
abbrev XR:=@List.not_mem_nil
abbrev XS:=@List.length_singleton
abbrev XT:=@List.length_append
abbrev XU:=@List.pairwise_iff_getElem
abbrev XV:=@List.getElem?_mapIdx
abbrev XW:=@beq_iff_eq
abbrev XX:=@Nat.zero_add
abbrev XY:=@Option.isSome_iff_exists
abbrev XZ:=@List.idxOf_lt_length_iff
abbrev X0:=@Option.some.inj
abbrev X1:=@of_decide_eq_true
abbrev X2:=@List.map_take
abbrev X3:=@List.map_drop
abbrev X4:=@List.getElem?_cons_succ
abbrev X5:=@List.flatMap_map
abbrev X6:=@List.flatMap_nil
abbrev X7:=@Bool.not_eq_true
abbrev X8:=@getElem!_pos
abbrev X9:=@List.perm_ext_iff_of_nodup
abbrev Ya:=@List.getElem?_zip_eq_some
abbrev Yb:=@eq_true
abbrev Yc:=@BEq.rfl
abbrev Yd:=@Option.getD_some
abbrev Ye:=@List.map_set
abbrev Yf:=@and_true
abbrev Yg:=@Nat.zero_le
abbrev Yh:=@List.map_id
abbrev Yi:=@Nat.lt_trichotomy
abbrev Yj:=@List.any_eq_false
abbrev Yk:=@List.getElem?_toArray
abbrev Yl:=@Bool.false_and
abbrev Ym:=@List.cons_append
abbrev Yn:=@List.length_nil
abbrev Yo:=@List.head?_drop
abbrev Yp:=@Bool.not_false
abbrev Yq:=@decide_eq_false_iff_not
abbrev Yr:=@List.getElem?_replicate
abbrev Ys:=@List.filter_cons_of_pos
abbrev Yt:=@List.filter_cons_of_neg
abbrev Yu:=@List.drop_sublist
abbrev Yv:=@Array.all_eq_true_iff_forall_mem
abbrev Yw:=@List.flatMap_def
abbrev Yx:=@or_false
abbrev Yy:=@Bool.cond_decide
abbrev Yz:=@Array.getElem?_modify
abbrev YA:=@Array.getElem?_setIfInBounds_ne
abbrev YB:=@Nat.add_comm
abbrev YC:=@List.any_map
abbrev YD:=@List.length_set
abbrev YE:=@List.count_cons_self
abbrev YF:=@Bool.or_eq_true
abbrev YG:=@List.nodup_cons
abbrev YH:=@List.getElem_toArray
abbrev YI:=@List.pairwise_append
abbrev YJ:=@List.length_pos_iff
abbrev YK:=@List.getElem_of_mem
abbrev YL:=@List.map_replicate
abbrev YM:=@Array.getElem_setIfInBounds
abbrev YN:=@List.getElem_idxOf
abbrev YO:=@List.count_eq_zero
abbrev YP:=@List.pairwise_cons
abbrev YQ:=@Array.toList_setIfInBounds
abbrev YR:=@Bool.false_or
abbrev YS:=@Prod.mk.injEq
abbrev YT:=@Array.getElem?_eq_some_iff
abbrev YU:=@List.length_range
abbrev YV:=@List.size_toArray
abbrev YW:=@List.pairwise_map
abbrev YX:=@Bool.not_eq_true'
abbrev YY:=@List.take_add_one
abbrev YZ:=@Option.isNone_iff_eq_none
abbrev Y0:=@Nat.sub_zero
abbrev Y1:=@List.length_erase_of_mem
abbrev Y2:=@List.nodup_range
abbrev Y3:=@List.pairwise_mergeSort
abbrev Y4:=@Option.map_none
abbrev Y5:=@UInt8.toNat_inj
abbrev Y6:=@List.count_nil
abbrev Y7:=@bne_iff_ne
abbrev Y8:=@List.any_cons
abbrev Y9:=ByteArray
inductive Kd where|own|far|lent (h c:Nat) (root:Bool) deriving DecidableEq
def Kd.unr:Kd→Kd| .lent h c _=>.lent h c false|k=>k
inductive T (δ:Type) where|v (x:Value)|any|s (k:Kd) (d:δ) (sz:Nat) (rows:List (List (T δ)))
inductive TM where|fn (f:FuncId)|arr (offs:List Nat)
inductive Sl (δ β:Type) where|any|one (t:T δ)|agg (ts:List (T δ))|box (b:β) (ts:List (T δ))|al (h c:Nat) (st:List (Nat×Nat)) (lo len:Nat)|pb (h off:Nat)|pe (h c:Nat) (st:List (Nat×Nat)) (i off:Nat)|im (k:Kd) (b:β) (ts:List (T δ)) (off:Nat)|fni (f:FuncId) (caps:List (β×List (T δ)))|clo (f:TM) (hs:List Nat)|tup (rs:List (Bool×List (T δ)))
abbrev St (δ β:Type):=List (Sl δ β)
section
variable  {δ β : Type}
def T.kd (k:Kd):T δ→T δ| .s .own d z r=>.s k d z r|t=>t
def T.view (k:Kd):T δ→T δ| .s _ d z r=>.s k d z r|t=>t
def T.isOwn:T δ→Bool| .s .own _ _ _=>true|_=>false
def T.fine:T δ→Bool| .s .own _ _ _=>true| .s _ _ _ _=>false|_=>true
def T.hole:T δ→T δ| .s .own _ _ _=>.any|t=>t
def T.dead (p:Nat→Nat→Bool):T δ→T δ| .s (.lent h c a) d z r=>if p h c then .any else .s (.lent h c a) d z r|t=>t
def Sl.dead (p:Nat→Nat→Bool)(q:Nat→Nat→Bool→Bool):Sl δ β→Sl δ β
 | .one t=>.one (t.dead p)
 | .agg ts=>.agg (ts.map (T.dead p))
 | .box b ts=>.box b (ts.map (T.dead p))
 | .al h c st lo len=>if q h c (!st.isEmpty)then .any else .al h c st lo len
 | .pe h c st i off=>if q h c (!st.isEmpty)then .any else .pe h c st i off
 | .im k b ts off=>match k with| .lent h c _=>(if p h c then .any else .im k b ts off)|_=>.im k b ts off
 | .tup rs=>.tup (rs.map fun r=>(r.1,r.2.map (T.dead p)))
 |x=>x
def Sl.gone (t:Nat):Sl δ β→Sl δ β| .pb h off=>if h=t then .any else .pb h off| .clo f hs=>if hs.contains t then .any else .clo f hs|x=>x
def St.dead (p:Nat→Nat→Bool)(q:Nat→Nat→Bool→Bool)(D:St δ β):St δ β:=D.map (Sl.dead p q)
def atH (t:Nat):Nat→Nat→Bool:=fun h _=>h==t
def dm (t u:Nat):Nat→Nat→Bool:=fun h c=>h==t&&c==u
def qH (t:Nat):Nat→Nat→Bool→Bool:=fun h _ _=>h==t
def qHC (t u:Nat):Nat→Nat→Bool→Bool:=fun h c _=>h==t&&c==u
def ny (t u:Nat):Nat→Nat→Bool→Bool:=fun h c a=>h==t&&c==u&&a
def qNo:Nat→Nat→Bool→Bool:=fun _ _ _=>false
def bc (t:Nat)(D:St δ β):St δ β:=((D.dead (atH t) (qH t)).map (Sl.gone t)).set t .any
def Sl.isHome:Sl δ β→Bool| .one t=>t.isOwn| .agg ts=>ts.any T.isOwn| .box _ _=>true| .tup rs=>rs.any fun r=>r.2.any T.isOwn|_=>false
def Sl.clean (t:Nat)(x:Sl δ β):Sl δ β:=(x.dead (atH t) (qH t)).gone t
def ba (D:St δ β)(dst:Option Nat)(x:Sl δ β):St δ β :=
 match dst with
 |none=>D
 |some t=>(bc t D).set t (x.clean t)
def aZ:Sl δ β→Option (List (T δ))| .one t=>some [t]| .agg ts=>some ts| .box _ ts=>some ts|_=>none
def setCells (cs:List (T δ)):Sl δ β→Sl δ β| .one _=>.one (cs.headD .any)| .agg _=>.agg cs| .box b _=>.box b cs|x=>x
def av (D:St δ β)(h c:Nat):Option (T δ):=(D[h]?.bind aZ).bind (·[c]?)
def gE (D:St δ β)(h c:Nat)(t:T δ):Option (St δ β):=
 match D[h]? with
 |some x=>(aZ x).map fun cs=>D.set h (setCells (cs.set c t) x)
 |none=>none
def getN:T δ→List (Nat×Nat)→Option (T δ)
 |t,[]=>some t
 | .s _ _ _ rows,(i,c)::st=>(rows[i]?.bind (·[c]?)).bind (getN · st)
 |_,_=>none
def gl (f:T δ→Option (T δ)):T δ→List (Nat×Nat)→Option (T δ)|t,[]=>f t| .s k d z rows,(i,c)::st =>(rows[i]?).bind fun row=>(row[c]?).bind fun u=>(gl f u st).map fun u'=>.s k d z (rows.set i (row.set c u'))|_,_=>none
def cX (D:St δ β)(h c:Nat)(st:List (Nat×Nat)):Option (T δ):=(av D h c).bind (getN · st)
def dL (f:T δ→Option (T δ))(D:St δ β)(h c:Nat)(st:List (Nat×Nat)):Option (St δ β):=(av D h c).bind fun t=>(gl f t st).bind fun t'=>gE D h c t'
end
structure Dec where
 b:Nat
 o:Nat
 cap:Nat
 nil:Bool
 sp:Option Addr:=none
def Dec.addr (d:Dec):Option Addr :=
 match d.sp with
 |some a=>some a
 |none=>if d.nil then none else some ⟨d.b,d.o,none⟩
theorem Dec.addr_none {d:Dec}(h:d.sp=none):d.addr=if d.nil then none else some ⟨d.b,d.o,none⟩:=by unfold Dec.addr;rw[h]
abbrev DT:=T Dec
abbrev DSl:=Sl Dec (Nat×Nat)
abbrev DSt:=List DSl
def VT:DT→Value→Prop| .v x,y=>y=x∧y.oneCell'=true| .any,y=>y.oneCell'=true| .s _ d _ rows,y=>y = .slice d.addr rows.length d.cap
theorem VT.one {t:DT}{y:Value}(h:VT t y):y.oneCell'=true:=by
 cases t with
 |v x=>exact h.2
 |any=>exact h
 |s k d z r=>rw[show y=_ from h];rfl
mutual
def bl:DT→List Nat| .v _=>[]| .any=>[]| .s _ d _ rows=>(if d.nil then []else [d.b])++zP rows
def DC:List DT→List Nat|[]=>[]|t::r=>bl t++DC r
def zP:List (List DT)→List Nat|[]=>[]|r::rs=>DC r++zP rs
end
theorem R9 (r:List DT):DC r=r.flatMap bl:=by
 induction r with
 |nil=>simp[DC]
 |cons a r b=>simp[DC,b]
theorem Qk (r:List (List DT)):zP r=r.flatMap fun x=>x.flatMap bl:=by
 induction r with
 |nil=>simp[zP]
 |cons a r b=>simp[zP,b,R9]
theorem cJ (k:Kd)(d:Dec)(z:Nat)(rows:List (List DT)):
  bl (.s k d z rows)=(if d.nil then []else [d.b])++rows.flatMap fun x=>x.flatMap bl:=by
 rw[bl,Qk]
inductive Holds (w:World):DT→Prop where|v (x:Value):Holds w (.v x)|any:Holds w .any|e (k:Kd) (d:Dec) (z:Nat):Holds w (.s k d z [])|s (k:Kd) (d:Dec) (z:Nat) (rows:List (List DT)) (h:d.nil=false) (hsp:d.sp=none) (c:Array Value) (e:TypeId) (f:Nat×Nat) (hb:w.heap[d.b]?=some (.cells c e f)) (hcap:rows.length≤d.cap) (hz:∀(i:Nat)(row:List DT),rows[i]?=some row→row.length=z) (hv:∀(i:Nat)(row:List DT)(j:Nat)(t:DT),rows[i]?=some row→row[j]?=some t→∃y,c[d.o+i*z+j]?=some y∧VT t y) (hh:∀(i:Nat)(row:List DT)(j:Nat)(t:DT),rows[i]?=some row→row[j]?=some t→Holds w t):Holds w (.s k d z rows)
inductive OwnT (w:World):DT→Prop where|v (x:Value):OwnT w (.v x)|any:OwnT w .any|nil (d:Dec) (z:Nat) (h:d.nil=true) (hsp:d.sp=none) (hc:d.cap=0):OwnT w (.s .own d z [])|s (d:Dec) (z:Nat) (rows:List (List DT)) (h:d.nil=false) (hsp:d.sp=none) (c:Array Value) (e:TypeId) (lo hi:Nat) (hb:w.heap[d.b]?=some (.cells c e (lo,hi))) (hcap:rows.length≤d.cap) (hroom:d.o+d.cap*z≤c.size) (hf:∀x,d.o≤x→x<d.o+d.cap*z→¬(lo≤x∧x<hi)) (hh:∀(i:Nat)(row:List DT)(j:Nat)(t:DT),rows[i]?=some row→row[j]?=some t→OwnT w t):OwnT w (.s .own d z rows)
theorem OwnT.sp {w:World}{k:Kd}{d:Dec}{z:Nat}{rows:List (List DT)}(h:OwnT w (.s k d z rows)):d.sp=none:=by
 cases h with
 |nil _ _ _ hsp _=>exact hsp
 |s _ _ _ _ hsp=>exact hsp
theorem Holds.sp {w:World}{k:Kd}{d:Dec}{z:Nat}{rows:List (List DT)}(h:Holds w (.s k d z rows))(a:rows≠[]):d.sp=none:=by
 cases h with
 |e=>exact absurd rfl a
 |s _ _ _ _ _ hsp=>exact hsp
theorem lZ {k:Kd}{d:Dec}{z:Nat}{rows:List (List DT)}(h:d.nil=false):d.b∈bl (.s k d z rows):=by rw[cJ,h];simp
theorem lv {k:Kd}{d:Dec}{z:Nat}{rows:List (List DT)}{i j:Nat}{row:List DT}{t:DT}(hi:rows[i]?=some row)(hj:row[j]?=some t){b:Nat}(hb:b∈bl t):
  b∈bl (.s k d z rows):=by
 rw[cJ];simp only[WF,Wq];exact .inr ⟨row,Wd hi,t,Wd hj,hb⟩
theorem dY {w:World}{b:Nat}{o:Obj}(h:w.heap[b]?=some o):b<w.heap.size:=by
 rcases Wl b w.heap.size with g|g
 ·exact g
 ·rw[Xe g]at h;cases h
theorem Holds.frame {w w':World}{t:DT}(h:Holds w t):(∀b∈bl t,b<w.heap.size→w'.heap[b]?=w.heap[b]?)→Holds w' t:=by
 induction h with
 |v x=>exact fun _=>.v x
 |any=>exact fun _=>.any
 |e k d z=>exact fun _=>.e k d z
 |s k d z rows h hsp c e f hb hcap hz hv hh g =>intro hs;exact .s k d z rows h hsp c e f (by rw[hs _ (lZ h) (dY hb)];exact hb) hcap hz hv fun i row j t hi a =>g i row j t hi a fun b hb=>hs b (lv hi a hb)
theorem OwnT.frame {w w':World}{t:DT}(h:OwnT w t):(∀b∈bl t,b<w.heap.size→w'.heap[b]?=w.heap[b]?)→OwnT w' t:=by
 induction h with
 |v x=>exact fun _=>.v x
 |any=>exact fun _=>.any
 |nil d z h hsp hc=>exact fun _=>.nil d z h hsp hc
 |s d z rows h hsp c e lo hi hb hcap hroom hf hh f =>intro hs;exact .s d z rows h hsp c e lo hi (by rw[hs _ (lZ h) (dY hb)];exact hb) hcap hroom hf fun i row j t hi a =>f i row j t hi a fun b hb=>hs b (lv hi a hb)
theorem Holds.lt {w:World}{t:DT}(h:Holds w t)(l:OwnT w t):∀b∈bl t,b<w.heap.size:=by
 induction h with
 |v x=>intro b hb;simp[bl]at hb
 |any=>intro b hb;simp[bl]at hb
 |e k d z =>
  intro b hb;rw[cJ]at hb;cases l with
  |nil d z h hsp hc=>simp[h]at hb
  |s d z rows h hsp c e lo hi a =>
   simp[h]at hb;subst hb;rcases Wl d.b w.heap.size with g|g
   ·exact g
   ·rw[Xe g]at a;cases a
 |s k d z rows h hsp c e f hb hcap hz hv hh n =>
  intro b a;rw[cJ,h]at a;simp only[WC,W2,WF,Wq,Wk]at a;rcases a with rfl|⟨row,o,t,p,a⟩
  ·rcases Wl d.b w.heap.size with g|g
   ·exact g
   ·rw[Xe g]at hb;cases hb
  ·obtain⟨i,hi⟩:=Wm o;obtain⟨j,m⟩:=Wm p;refine n i row j t hi m ?_ b a;cases l with
   |nil d z q hsp hc=>simp[h]at q
   |s d z rows h hsp c e lo hi hb hcap hroom hf hh=>exact hh i row j t ‹_› m
def ownR (t:DT):List Nat:=if t.isOwn then bl t else []
def ownBl:DSl→List Nat| .one t=>ownR t| .agg ts=>ts.flatMap ownR| .box b ts=>b.1::ts.flatMap ownR| .tup rs=>rs.flatMap fun r=>r.2.flatMap ownR|_=>[]
def aj:DSl→List DT
 | .one t=>[t]
 | .agg ts=>ts
 | .box _ ts=>ts
 | .im _ _ ts _=>ts
 | .fni _ caps=>caps.flatMap (·.2)
 | .tup rs=>rs.flatMap (·.2)
 |_=>[]
def rootsO:DSl→List DT
 | .one t=>[t]
 | .agg ts=>ts
 | .box _ ts=>ts
 | .tup rs=>rs.flatMap (·.2)
 |_=>[]
def VCells (ts:List DT)(cs:List Value):Prop:=ts.length=cs.length∧∀(i:Nat)(t:DT)(y:Value),ts[i]?=some t→cs[i]?=some y→VT t y
def VPart (r:Bool×List DT)(y:Value):Prop:=if r.1 then ∃cs:Array Value,y = .agg cs∧VCells r.2 cs.toList else ∃t,r.2=[t]∧VT t y
def e8 (D:DSt)(h c:Nat)(st:List (Nat×Nat))(d:Dec)(z n:Nat):Prop :=∃t,av D h c=some t∧t.isOwn=true∧∃k rows,getN t st=some (.s k d z rows)∧rows.length=n
def Jm:TM→List (Nat×Nat)→Value| .fn f,a=>.func (.func f) #[] (a.map fun b=>Value.pointer (some ⟨b.1,b.2,none⟩)).toArray| .arr offs,a=>.agg ((a.zip offs).map fun p=>Value.pointer (some ⟨p.1.1,p.1.2+p.2,none⟩)).toArray
def VS (D:DSt):DSl→Value→Prop| .any,_=>True| .one t,y=>VT t y| .agg ts,y=>∃cs:Array Value,y = .agg cs∧VCells ts cs.toList| .box b _,y=>y = .pointer (some ⟨b.1,b.2,none⟩)| .al h c st lo len,y=>∃d z n a,e8 D h c st d z n∧lo+len≤n∧y = .slice a len (d.cap-lo)∧(lo<d.cap→a=some ⟨d.b,d.o+lo*z,none⟩)∧(lo=0→a=if d.nil then none else some ⟨d.b,d.o,none⟩)| .pb h off,y=>∃b ts,D[h]?=some (.box b ts)∧y = .pointer (some ⟨b.1,b.2+off,none⟩)| .pe h c st i off,y=>∃d z n,e8 D h c st d z n∧i<n∧y = .pointer (some ⟨d.b,d.o+i*z+off,none⟩)| .im _ b _ off,y=>y = .pointer (some ⟨b.1,b.2+off,none⟩)| .fni f caps,y=>y = .func (.func f) #[] (caps.map fun b=>Value.pointer (some ⟨b.1.1,b.1.2,none⟩)).toArray| .clo f hs,y=>∃e:List (Nat×Nat),e.length=hs.length∧(∀(i h:Nat)(b:Nat×Nat),hs[i]?=some h→e[i]?=some b→∃ts,D[h]?=some (.box b ts)) ∧ y=Jm f e| .tup rs,y=>∃g:Array Value,y = .tuple g∧rs.length=g.toList.length∧∀(i:Nat)(r:Bool×List DT)(v:Value),rs[i]?=some r→g.toList[i]?=some v→VPart r v
def Lies (w:World)(b:Nat×Nat)(ts:List DT):Prop :=∃c e f,w.heap[b.1]?=some (.cells c e f)∧∀(j:Nat)(t:DT),ts[j]?=some t→∃y,c[b.2+j]?=some y∧VT t y
def Free (w:World)(b:Nat×Nat)(n:Nat):Prop :=∀c e lo hi,w.heap[b.1]?=some (.cells c e (lo,hi))→∀x,b.2≤x→x<b.2+n→¬(lo≤x∧x<hi)
def Ja (w:World):DSl→Prop| .box b ts=>Lies w b ts∧Free w b ts.length| .im _ b ts _=>Lies w b ts| .fni _ caps=>∀p∈caps,Lies w p.1 p.2|_=>True
def MemS (w:World)(s:DSl):Prop :=(∀t∈aj s,Holds w t)∧(∀t∈rootsO s,t.isOwn=true→OwnT w t)∧Ja w s
structure Cx where
 w0:World
 X:List Nat
def Cx.may (cx:Cx)(b:Nat):Prop:=cx.w0.heap.size≤b∨b∈cx.X
def Cx.far (cx:Cx)(b:Nat):Prop:=b<cx.w0.heap.size∧b∉cx.X
theorem Cx.far_not {cx:Cx}{b:Nat}(h:cx.far b):¬cx.may b:=fun a=>a.elim (fun g=>by have:=h.1;omega) h.2
structure Cx.Fr (cx:Cx)(w:World):Prop where
 os:w.os=cx.w0.os
 tape:w.tape=cx.w0.tape
 output:w.output=cx.w0.output
 size:cx.w0.heap.size≤w.heap.size
 same:∀b,cx.far b→w.heap[b]?=cx.w0.heap[b]?
def bK (cx:Cx)(D:DSt):DT→Prop| .s .far d z rows=>∀x∈bl (.s .far d z rows),cx.far x| .s (.lent h c b) d z rows=>∃t,av D h c=some t∧t.isOwn=true∧(∀x∈bl (.s (.lent h c b) d z rows),x∈bl t)∧(b=true→∃e a,t = .s .own d e a∧a.length=rows.length)|_=>True
def pD (cx:Cx)(D:DSt)(k:Kd)(b:Nat)(ts:List DT):Prop :=
 match k with
 | .own=>False
 | .far=>cx.far b∧∀t∈ts,∀x∈bl t,cx.far x
 | .lent h c _=>∃t,av D h c=some t∧t.isOwn=true∧b∈bl t∧∀u∈ts,∀x∈bl u,x∈bl t
def eW (cx:Cx)(D:DSt):DSl→Prop| .im k b ts _=>pD cx D k b.1 ts| .fni _ caps=>∀p∈caps,cx.far p.1.1∧∀t∈p.2,∀x∈bl t,cx.far x|s=>∀t∈aj s,bK cx D t
def bv (D:DSt)(b:Nat):Nat:=(D.flatMap ownBl).count b
def aV (P:List (DT×Value))(b:Nat):Nat:=(P.flatMap fun p=>ownR p.1).count b
structure Inv (cx:Cx)(D:DSt)(P:List (DT×Value))(tm:Array Value)(w:World):Prop where
 size:D.length=tm.size
 val:∀(t:Nat)(s:DSl),D[t]?=some s→VS D s (tm.getD t undef)
 mem:∀s∈D,MemS w s
 kind:∀s∈D,eW cx D s
 pend:∀p∈P,VT p.1 p.2∧Holds w p.1∧(p.1.isOwn=true→OwnT w p.1)∧(p.1.isOwn=false→∀x∈bl p.1,cx.far x)
 once:∀b,bv D b+aV P b≤1
 bnd:∀b,0<bv D b+aV P b→cx.may b∧b<w.heap.size
 frame:cx.Fr w
def cQ (t:Nat):DSl→Prop| .al h _ _ _ _=>h=t| .pe h _ _ _ _=>h=t| .pb h _=>h=t| .clo _ hs=>t∈hs| .im (.lent h _ _) _ _ _=>h=t| .one u=>∃c a d z r,u = .s (.lent t c a) d z r| .agg ts=>∃u∈ts,∃c a d z r,u = .s (.lent t c a) d z r| .box _ ts=>∃u∈ts,∃c a d z r,u = .s (.lent t c a) d z r| .tup rs=>∃p∈rs,∃u∈p.2,∃c a d z r,u = .s (.lent t c a) d z r|_=>False
theorem na {D:DSt}{t h c:Nat}{x:DSl}(a:h≠t):av (D.set t x) h c=av D h c:=by unfold av;rw[Ws (fun e=>a e.symm)]
theorem Cm {D:DSt}{t h c:Nat}{st:List (Nat×Nat)}{x:DSl}{d:Dec}{z n:Nat}(a:h≠t):e8 (D.set t x) h c st d z n↔e8 D h c st d z n:=by unfold e8;rw[na a]
theorem zM {D:DSt}{t:Nat}{x s:DSl}{y:Value}(a:¬cQ t s)(h:VS D s y):VS (D.set t x) s y:=by
 cases s with
 |al d c st lo len=>simp only[VS,Cm (show d≠t from a)]at *;exact h
 |pe d c st i off=>simp only[VS,Cm (show d≠t from a)]at *;exact h
 |pb d off =>simp only[VS]at *;rw[Ws (fun e=>a e.symm)];exact h
 |clo f hs =>
  simp only[VS]at *;obtain⟨g,j,k,l⟩:=h;refine⟨g,j,fun i h b hi hb=>?_,l⟩;have:h≠t:=fun e=>a (e ▸ Wd hi)
  rw[Ws (fun e=>this e.symm)];exact k i h b hi hb
 |_=>exact h
theorem ve {cx:Cx}{D:DSt}{t:Nat}{x:DSl}{u:DT}(b:∀c a d z r,u ≠ .s (.lent t c a) d z r)(h:bK cx D u):bK cx (D.set t x) u:=by
 cases u with
 |v x=>exact trivial
 |any=>exact trivial
 |s k d z r =>
  cases k with
  |own=>exact trivial
  |far=>exact h
  |lent f c a =>
   have:f≠t:=fun e=>b c a d z r (by rw[e])
   simp only[bK,na this]at *;exact h
theorem sj {cx:Cx}{D:DSt}{t:Nat}{x s:DSl}(g:¬cQ t s)(h:eW cx D s):eW cx (D.set t x) s:=by
 cases s with
 |im k b ts off =>
  cases k with
  |own=>exact h
  |far=>exact h
  |lent i c a=>simp only[eW,pD,na (show i≠t from g)]at *;exact h
 |fni f caps=>exact h
 |one u=>exact fun v hv=>by simp[aj]at hv;subst hv;exact ve (fun c a d z r e=>g ⟨c,a,d,z,r,e⟩) (h _ (by simp[aj]))
 |agg ts=>exact fun v hv=>ve (fun c a d z r e=>g ⟨v,hv,c,a,d,z,r,e⟩) (h _ hv)
 |box b ts=>exact fun v hv=>ve (fun c a d z r e=>g ⟨v,hv,c,a,d,z,r,e⟩) (h _ hv)
 |tup rs =>
  refine fun v hv=>ve (fun c a d z r e=>?_) (h _ hv)
  simp only[aj,Wq]at hv;obtain⟨p,j,hv⟩:=hv;exact g ⟨p,j,v,hv,c,a,d,z,r,e⟩
 |any=>exact fun v hv=>by simp[aj]at hv
 |al=>exact fun v hv=>by simp[aj]at hv
 |pe=>exact fun v hv=>by simp[aj]at hv
 |pb=>exact fun v hv=>by simp[aj]at hv
 |clo=>exact fun v hv=>by simp[aj]at hv
theorem T.dead_own {p:Nat→Nat→Bool}{t:DT}(h:t.isOwn=true):t.dead p=t:=by
 cases t with
 |v x=>rfl
 |any=>rfl
 |s k d z r=>cases k<;>simp_all[T.isOwn,T.dead]
theorem T.dead_cases (p:Nat→Nat→Bool)(t:DT):t.dead p=t∨(t.dead p = .any∧t.isOwn=false):=by
 cases t with
 |v x=>exact .inl rfl
 |any=>exact .inl rfl
 |s k d z r =>
  cases k with
  |own=>exact .inl rfl
  |far=>exact .inl rfl
  |lent h c a =>
   simp only[T.dead];split
   ·exact .inr ⟨rfl,rfl⟩
   ·exact .inl rfl
theorem A0 (p:Nat→Nat→Bool)(t:DT):ownR (t.dead p)=ownR t:=by
 rcases T.dead_cases p t with h|⟨h,a⟩
 ·rw[h]
 ·rw[h];simp only[ownR,a];rfl
theorem Bu {p:Nat→Nat→Bool}{t:DT}{y:Value}(h:VT t y):VT (t.dead p) y:=by
 rcases T.dead_cases p t with e|⟨e,_⟩
 ·rwa [e]
 ·rw[e];exact h.one
theorem Of {p:Nat→Nat→Bool}{t:DT}{w:World}(h:Holds w t):Holds w (t.dead p):=by
 rcases T.dead_cases p t with e|⟨e,_⟩
 ·rwa [e]
 ·rw[e];exact .any
theorem w7 (p:Nat→Nat→Bool)(q:Nat→Nat→Bool→Bool)(s:DSl):aZ (s.dead p q)=(aZ s).map (List.map (T.dead p)):=by
 cases s with
 |al h c st lo len=>simp only[Sl.dead];split<;>rfl
 |pe h c st i off=>simp only[Sl.dead];split<;>rfl
 |im k b ts off =>
  simp only[Sl.dead];split
  ·split<;>rfl
  ·rfl
 |_=>rfl
theorem LV (p:Nat→Nat→Bool)(q:Nat→Nat→Bool→Bool)(D:DSt)(h c:Nat):av (St.dead p q D) h c=(av D h c).map (T.dead p):=by
 unfold av St.dead;rw[Wr];cases D[h]? with
 |none=>rfl
 |some s =>
  simp only[Wc,V9,w7];cases aZ s with
  |none=>rfl
  |some cs=>simp[Wr]
theorem it {p:Nat→Nat→Bool}{q:Nat→Nat→Bool→Bool}{D:DSt}{h c:Nat}{t:DT}(e:av D h c=some t)(a:t.isOwn=true):av (St.dead p q D) h c=some t:=by rw[LV,e,Wc,T.dead_own a]
theorem KH {p:Nat→Nat→Bool}{q:Nat→Nat→Bool→Bool}{D:DSt}{h c:Nat}{st:List (Nat×Nat)}{d:Dec}{z n:Nat}(e:e8 D h c st d z n):e8 (St.dead p q D) h c st d z n:=by obtain⟨t,b,a,f⟩:=e;exact⟨t,it b a,a,f⟩
theorem Ji {p:Nat→Nat→Bool}{q:Nat→Nat→Bool→Bool}{D:DSt}{h:Nat}{b:Nat×Nat}{ts:List DT}(e:D[h]?=some (.box b ts)):(St.dead p q D)[h]?=some (.box b (ts.map (T.dead p))):=by unfold St.dead;rw[Wr,e];rfl
theorem vU {p:Nat→Nat→Bool}{ts:List DT}{cs:List Value}(h:VCells ts cs):VCells (ts.map (T.dead p)) cs:=by refine⟨by simpa using h.1,fun i t y hi a=>?_⟩;rw[Wr,We]at hi;obtain⟨t',hi,rfl⟩:=hi;exact Bu (h.2 i t' y hi a)
theorem Qe {p:Nat→Nat→Bool}{w:World}{b:Nat×Nat}{ts:List DT}(h:Lies w b ts):Lies w b (ts.map (T.dead p)):=by obtain⟨c,e,f,hb,hv⟩:=h;refine⟨c,e,f,hb,fun j t a=>?_⟩;rw[Wr,We]at a;obtain⟨t',a,rfl⟩:=a;obtain⟨y,d,g⟩:=hv j t' a;exact⟨y,d,Bu g⟩
theorem NH {D D':DSt}(l:∀h c st d z n,e8 D h c st d z n→e8 D' h c st d z n)
  (hb:∀(h:Nat)(b:Nat×Nat)(ts:List DT),D[h]?=some (Sl.box b ts)→∃ts':List DT,D'[h]?=some (Sl.box b ts')) {s:DSl} {y:Value} (h:VS D s y):VS D' s y:=by
 cases s with
 |al m c st lo len =>obtain⟨d,z,n,a,e,g⟩:=h;exact⟨d,z,n,a,l _ _ _ _ _ _ e,g⟩
 |pe m c st i off =>obtain⟨d,z,n,e,g⟩:=h;exact⟨d,z,n,l _ _ _ _ _ _ e,g⟩
 |pb m off =>obtain⟨b,ts,e,g⟩:=h;obtain⟨ts',j⟩:=hb _ _ _ e;exact⟨b,ts',j,g⟩
 |clo f hs =>obtain⟨o,e,g,j⟩:=h;refine⟨o,e,fun i h b hi k=>?_,j⟩;obtain⟨ts,p⟩:=g i h b hi k;exact hb _ _ _ p
 |_=>exact h
theorem NF {p:Nat→Nat→Bool}{q:Nat→Nat→Bool→Bool}{D:DSt}{s:DSl}{y:Value}(h:VS D s y):VS (St.dead p q D) (s.dead p q) y:=by
 have a:VS (St.dead p q D) s y:=NH (fun _ _ _ _ _ _=>KH) (fun _ _ _ e=>⟨_,Ji e⟩) h;cases s with
 |one t=>exact Bu h
 |agg ts =>obtain⟨cs,d,f⟩:=h;exact⟨cs,d,vU f⟩
 |al l c st lo len=>simp only[Sl.dead];split<;>first|trivial|exact a
 |pe l c st i off=>simp only[Sl.dead];split<;>first|trivial|exact a
 |im k b ts off =>
  simp only[Sl.dead];split
  ·split<;>first|trivial|exact a
  ·exact a
 |tup rs =>
  obtain⟨m,d,f,n⟩:=h;refine⟨m,d,by simpa using f,fun i r v hi hv=>?_⟩;rw[Wr,We]at hi;obtain⟨o,hi,rfl⟩:=hi;have:=n i o v hi hv;unfold VPart at *;simp only;split
  ·rename_i g;simp only[g,WN]at this;obtain⟨cs,g1,j⟩:=this;exact⟨cs,g1,vU j⟩
  ·rename_i g;simp only[g]at this;obtain⟨t,g1,j⟩:=this;exact⟨t.dead p,by rw[g1];rfl,Bu j⟩
 |_=>exact a
theorem A5 {p:Nat→Nat→Bool}{q:Nat→Nat→Bool→Bool}{s:DSl}{u:DT}(h:u∈aj (s.dead p q)):
  ∃v∈aj s,u=v∨(u = .any):=by
 have a:∀(ts:List DT),u∈ts.map (T.dead p)→∃v∈ts,u=v∨u = .any:=by
  intro ts d;obtain⟨v,hv,rfl⟩:=Wx.1 d;rcases T.dead_cases p v with e|⟨e,_⟩
  ·exact⟨v,hv,.inl e⟩
  ·exact⟨v,hv,.inr e⟩
 cases s with
 |one t=>exact a [t] h
 |agg ts=>exact a ts h
 |box b ts=>exact a ts h
 |al j c st lo len=>simp only[Sl.dead]at h;split at h<;>simp[aj]at h
 |pe j c st i off=>simp only[Sl.dead]at h;split at h<;>simp[aj]at h
 |im k b ts off =>
  simp only[Sl.dead]at h;split at h
  ·split at h
   ·simp[aj]at h
   ·exact⟨u,h,.inl rfl⟩
  ·exact⟨u,h,.inl rfl⟩
 |tup rs =>simp only[Sl.dead,aj,Wq,Wx]at h;obtain⟨r,⟨g,l,rfl⟩,d⟩:=h;obtain⟨v,hv,e⟩:=a g.2 d;exact⟨v,by simp only[aj,Wq];exact⟨g,l,hv⟩,e⟩
 |any=>simp[Sl.dead,aj]at h
 |pb=>simp[Sl.dead,aj]at h
 |clo=>simp[Sl.dead,aj]at h
 |fni f caps=>exact⟨u,h,.inl rfl⟩
theorem M6 {p:Nat→Nat→Bool}{q:Nat→Nat→Bool→Bool}{s:DSl}{u:DT}(h:u∈rootsO (s.dead p q)):
  ∃v∈rootsO s,u=v∨(u = .any):=by
 have a:∀(ts:List DT),u∈ts.map (T.dead p)→∃v∈ts,u=v∨u = .any:=by
  intro ts d;obtain⟨v,hv,rfl⟩:=Wx.1 d;rcases T.dead_cases p v with e|⟨e,_⟩
  ·exact⟨v,hv,.inl e⟩
  ·exact⟨v,hv,.inr e⟩
 cases s with
 |one t=>exact a [t] h
 |agg ts=>exact a ts h
 |box b ts=>exact a ts h
 |al j c st lo len=>simp only[Sl.dead]at h;split at h<;>simp[rootsO]at h
 |pe j c st i off=>simp only[Sl.dead]at h;split at h<;>simp[rootsO]at h
 |im k b ts off =>
  simp only[Sl.dead]at h;split at h
  ·split at h<;>simp[rootsO]at h
  ·simp[rootsO]at h
 |tup rs =>simp only[Sl.dead,rootsO,Wq,Wx]at h;obtain⟨r,⟨g,l,rfl⟩,d⟩:=h;obtain⟨v,hv,e⟩:=a g.2 d;exact⟨v,by simp only[rootsO,Wq];exact⟨g,l,hv⟩,e⟩
 |any=>simp[Sl.dead,rootsO]at h
 |pb=>simp[Sl.dead,rootsO]at h
 |clo=>simp[Sl.dead,rootsO]at h
 |fni f caps=>simp[Sl.dead,rootsO]at h
theorem GD {p:Nat→Nat→Bool}{q:Nat→Nat→Bool→Bool}{s:DSl}{w:World}(h:MemS w s):MemS w (s.dead p q):=by
 obtain⟨f,g,a⟩:=h;refine⟨fun u d=>?_,fun u d e=>?_,?_⟩
 ·obtain⟨v,hv,rfl|rfl⟩:=A5 d
  ·exact f _ hv
  ·exact .any
 ·obtain⟨v,hv,rfl|rfl⟩:=M6 d
  ·exact g _ hv e
  ·cases e
 ·cases s with
  |box b ts=>exact⟨Qe a.1,by simpa using a.2⟩
  |al j c st lo len=>simp only[Sl.dead];split<;>trivial
  |pe j c st i off=>simp only[Sl.dead];split<;>trivial
  |im k b ts off =>
   simp only[Sl.dead];split
   ·split
    ·trivial
    ·exact a
   ·exact a
  |_=>exact a
theorem Dr {cx:Cx}{D D':DSt}(hc:∀h c t,av D h c=some t→t.isOwn=true→av D' h c=some t){u:DT}(h:bK cx D u):bK cx D' u:=by
 cases u with
 |v x=>trivial
 |any=>trivial
 |s k d z r =>
  cases k with
  |own=>trivial
  |far=>exact h
  |lent f c g =>obtain⟨t,b,a,e⟩:=h;exact⟨t,hc _ _ _ b a,a,e⟩
theorem LJ {cx:Cx}{D D':DSt}(hc:∀h c t,av D h c=some t→t.isOwn=true→av D' h c=some t){k:Kd}{b:Nat}{ts:List DT}(h:pD cx D k b ts):pD cx D' k b ts:=by
 cases k with
 |own=>exact h
 |far=>exact h
 |lent f c g =>obtain⟨t,d,a,e⟩:=h;exact⟨t,hc _ _ _ d a,a,e⟩
theorem Dq {cx:Cx}{D D':DSt}(hc:∀h c t,av D h c=some t→t.isOwn=true→av D' h c=some t){s:DSl}(h:eW cx D s):eW cx D' s:=by
 cases s with
 |im k b ts off=>exact LJ hc h
 |fni f caps=>exact h
 |_=>exact fun t a=>Dr hc (h t a)
theorem Do {cx:Cx}{p:Nat→Nat→Bool}{q:Nat→Nat→Bool→Bool}{D:DSt}{s:DSl}(h:eW cx D s):eW cx (St.dead p q D) (s.dead p q):=by
 have a:=Dq (D':=St.dead p q D) (fun h c t e l=>it e l) h;have j:(∀t∈aj s,bK cx (St.dead p q D) t)→∀t∈aj (s.dead p q),bK cx (St.dead p q D) t:=by
  intro g t d;obtain⟨v,hv,rfl|rfl⟩:=A5 d
  ·exact g _ hv
  ·trivial
 cases s with
 |one t=>exact j a
 |agg t=>exact j a
 |box b t=>exact j a
 |tup t=>exact j a
 |im k b ts off =>
  simp only[Sl.dead];split
  ·split
   ·exact fun t d=>by simp[aj]at d
   ·exact a
  ·exact a
 |fni f caps=>exact a
 |al m c st lo len=>simp only[Sl.dead];split<;>exact fun t d=>by simp[aj]at d
 |pe m c st i off=>simp only[Sl.dead];split<;>exact fun t d=>by simp[aj]at d
 |any=>exact a
 |pb=>exact a
 |clo=>exact a
theorem ym (p:Nat→Nat→Bool)(q:Nat→Nat→Bool→Bool)(s:DSl):ownBl (s.dead p q)=ownBl s:=by
 have a:∀ts:List DT,(ts.map (T.dead p)).flatMap ownR=ts.flatMap ownR:=by
  intro ts;induction ts with
  |nil=>rfl
  |cons t ts d=>rw[Wv,WA,WA,d,A0]
 cases s with
 |one t=>exact A0 p t
 |agg ts=>exact a ts
 |box b ts=>simp only[Sl.dead,ownBl,a]
 |al e c st lo len=>simp only[Sl.dead];split<;>rfl
 |pe e c st i off=>simp only[Sl.dead];split<;>rfl
 |im k b ts off =>
  simp only[Sl.dead];split
  ·split<;>rfl
  ·rfl
 |tup rs =>
  simp only[Sl.dead,ownBl];induction rs with
  |nil=>rfl
  |cons r rs d=>simp only[Wv,WA,a,d]
 |_=>rfl
theorem mI (p:Nat→Nat→Bool)(q:Nat→Nat→Bool→Bool)(D:DSt):(St.dead p q D).flatMap ownBl=D.flatMap ownBl:=by
 unfold St.dead;induction D with
 |nil=>rfl
 |cons s D a=>simp only[Wv,WA,ym,a]
theorem Inv.dead {cx:Cx}{D:DSt}{P:List (DT×Value)}{tm:Array Value}{w:World}(I:Inv cx D P tm w)(p:Nat→Nat→Bool)(q:Nat→Nat→Bool→Bool):
  Inv cx (St.dead p q D) P tm w where
 size:=by have:=I.size;simpa[St.dead]using this
 val t s hs:=by unfold St.dead at hs;rw[Wr,We]at hs;obtain⟨s',hs,rfl⟩:=hs;exact NF (I.val t s' hs)
 mem s hs:=by obtain⟨s',a,rfl⟩:=Wx.1 hs;exact GD (I.mem s' a)
 kind s hs:=by obtain⟨s',a,rfl⟩:=Wx.1 hs;exact Do (I.kind s' a)
 pend:=I.pend
 once:=by unfold bv;rw[mI];exact I.once
 bnd:=by unfold bv;rw[mI];exact I.bnd
 frame:=I.frame
theorem w8 (t:Nat)(s:DSl):aZ (s.gone t)=aZ s:=by
 cases s with
 |pb h off=>simp only[Sl.gone];split<;>rfl
 |clo f hs=>simp only[Sl.gone];split<;>rfl
 |_=>rfl
theorem BU (t:Nat)(D:DSt)(h c:Nat):av (D.map (Sl.gone t)) h c=av D h c:=by
 unfold av;rw[Wr];cases D[h]? with
 |none=>rfl
 |some s=>simp only[Wc,V9,w8]
theorem A6 (t:Nat)(s:DSl):aj (s.gone t)=aj s:=by
 cases s with
 |pb h off=>simp only[Sl.gone];split<;>rfl
 |clo f hs=>simp only[Sl.gone];split<;>rfl
 |_=>rfl
theorem Cs (t:Nat)(s:DSl):rootsO (s.gone t)=rootsO s:=by
 cases s with
 |pb h off=>simp only[Sl.gone];split<;>rfl
 |clo f hs=>simp only[Sl.gone];split<;>rfl
 |_=>rfl
theorem qA (t:Nat)(s:DSl):ownBl (s.gone t)=ownBl s:=by
 cases s with
 |pb h off=>simp only[Sl.gone];split<;>rfl
 |clo f hs=>simp only[Sl.gone];split<;>rfl
 |_=>rfl
theorem NG {D:DSt}{t:Nat}{s:DSl}{y:Value}(h:VS D s y):VS (D.map (Sl.gone t)) (s.gone t) y:=by
 have a:VS (D.map (Sl.gone t)) s y:=NH (D:=D)
  (fun h c st d z n e=>by unfold e8 at *;rw[BU];exact e)
  (fun h b ts e=>⟨ts,by rw[Wr,e];rfl⟩) h
 cases s with
 |pb h off=>simp only[Sl.gone];split<;>first|trivial|exact a
 |clo f hs=>simp only[Sl.gone];split<;>first|trivial|exact a
 |_=>exact a
theorem GE {t:Nat}{w:World}{s:DSl}(h:Ja w s):Ja w (s.gone t):=by
 cases s with
 |pb h off=>simp only[Sl.gone];split<;>trivial
 |clo f hs=>simp only[Sl.gone];split<;>trivial
 |_=>exact h
theorem Dp {cx:Cx}{D:DSt}{t:Nat}{s:DSl}(h:eW cx D s):eW cx (D.map (Sl.gone t)) (s.gone t):=by
 have b:=Dq (D':=D.map (Sl.gone t)) (fun h c u e _=>by rw[BU];exact e) h;cases s with
 |pb h off=>simp only[Sl.gone];split<;>exact fun t a=>by simp[aj]at a
 |clo f hs=>simp only[Sl.gone];split<;>exact fun t a=>by simp[aj]at a
 |_=>exact b
theorem Inv.gone {cx:Cx}{D:DSt}{P:List (DT×Value)}{tm:Array Value}{w:World}(I:Inv cx D P tm w)(t:Nat):Inv cx (D.map (Sl.gone t)) P tm w where
 size:=by have:=I.size;simpa using this
 val u s hs:=by rw[Wr,We]at hs;obtain⟨s',hs,rfl⟩:=hs;exact NG (I.val u s' hs)
 mem s hs:=by obtain⟨s',a,rfl⟩:=Wx.1 hs;have:=I.mem s' a;exact⟨by rw[A6];exact this.1,by rw[Cs];exact this.2.1,GE this.2.2⟩
 kind s hs:=by obtain⟨s',a,rfl⟩:=Wx.1 hs;exact Dp (I.kind s' a)
 pend:=I.pend
 once:=by
  have:(D.map (Sl.gone t)).flatMap ownBl=D.flatMap ownBl:=by rw[X5];exact Wy (fun f=>List.flatMap f D) (funext (qA t))
  unfold bv;rw[this];exact I.once
 bnd:=by
  have:(D.map (Sl.gone t)).flatMap ownBl=D.flatMap ownBl:=by rw[X5];exact Wy (fun f=>List.flatMap f D) (funext (qA t))
  unfold bv;rw[this];exact I.bnd
 frame:=I.frame
def cV (t:Nat)(D:DSt):DSt:=(St.dead (atH t) (qH t) D).map (Sl.gone t)
theorem Jr (t:Nat)(u:DT)(c:Nat)(a:Bool)(d:Dec)(z:Nat)(r:List (List DT)):u.dead (atH t) ≠ .s (.lent t c a) d z r:=by
 cases u with
 |v x=>simp[T.dead]
 |any=>simp[T.dead]
 |s k b f g =>
  cases k with
  |own=>simp[T.dead]
  |far=>simp[T.dead]
  |lent h i a =>
   simp only[T.dead,atH];by_cases e:h=t
   ·subst e;simp
   ·simp[e]
theorem qC {t:Nat}{D:DSt}:∀s∈cV t D,¬cQ t s:=by
 intro s hs a;unfold cV St.dead at hs;rw[WW]at hs;obtain⟨u,j,rfl⟩:=Wx.1 hs;have l:∀ts:List DT,¬ ∃u∈ts.map (T.dead (atH t)),∃c g d z r,u = .s (.lent t c g) d z r:=by rintro ts ⟨u,j,c,g,d,z,r,e⟩;obtain⟨v,hv,rfl⟩:=Wx.1 j;exact Jr t v c g d z r e
 cases u with
 |any=>exact a
 |one v=>obtain⟨c,g,d,z,r,e⟩:=a;exact Jr t v c g d z r e
 |agg ts=>exact l ts a
 |box b ts=>exact l ts a
 |al h c st lo len =>
  simp only[Function.comp,Sl.dead,qH]at a;by_cases e:h=t
  ·subst e;simp[Sl.gone,cQ]at a
  ·simp[e,Sl.gone,cQ]at a
 |pe h c st i off =>
  simp only[Function.comp,Sl.dead,qH]at a;by_cases e:h=t
  ·subst e;simp[Sl.gone,cQ]at a
  ·simp[e,Sl.gone,cQ]at a
 |pb h off =>
  simp only[Function.comp,Sl.dead,Sl.gone]at a;by_cases e:h=t
  ·simp[e,cQ]at a
  ·simp[e,cQ]at a
 |clo f m =>
  simp only[Function.comp,Sl.dead,Sl.gone]at a;by_cases e:t∈m
  ·simp[e,cQ]at a
  ·simp[e,cQ]at a
 |im k b ts off =>
  cases k with
  |own=>exact a
  |far=>exact a
  |lent h c g =>
   simp only[Function.comp,Sl.dead,atH]at a;by_cases e:h=t
   ·subst e;simp[Sl.gone,cQ]at a
   ·simp[e,Sl.gone,cQ]at a
 |fni f caps=>exact a
 |tup rs =>obtain⟨p,n,u,j,c,g,d,z,r,e⟩:=a;obtain⟨o,q,rfl⟩:=Wx.1 n;exact l o.2 ⟨u,j,c,g,d,z,r,e⟩
theorem Inv.quiet {cx:Cx}{D:DSt}{P:List (DT×Value)}{tm:Array Value}{w:World}(I:Inv cx D P tm w)(t:Nat):Inv cx (cV t D) P tm w:=(I.dead _ _).gone t
theorem bR {α:Type}(f:α→List Nat)(x:α)(b:Nat):∀(l:List α)(t:Nat)(y:α),l[t]?=some y →
  (f y).count b+((l.set t x).flatMap f).count b=(f x).count b+(l.flatMap f).count b
 |[],t,y,h=>by simp at h
 |a::l,0,y,h=>by simp at h;subst h;simp only[List.set_cons_zero,WA,WD];omega
 |a::l,t+1,y,h=>by simp only[X4]at h;have c:=bR f x b l t y h;simp only[List.set_cons_succ,WA,WD];omega
theorem iU (P Q:List (DT×Value))(b:Nat):aV (P++Q) b=aV P b+aV Q b:=by unfold aV;rw[Xt,WD]
theorem cO (b:Nat):aV [] b=0:=rfl
theorem ld (p:DT×Value)(P:List (DT×Value))(b:Nat):aV (p::P) b=(ownR p.1).count b+aV P b:=by unfold aV;rw[WA,WD]
theorem Inv.fillF {cx:Cx}{D:DSt}{P Q:List (DT×Value)}{tm:Array Value}{w:World}(I:Inv cx D (P++Q) tm w){t:Nat}{i s:DSl}{y:Value}(F:Nat→Nat)
  (j:∀b,0<F b→F b≤1∧bv D b+aV (P++Q) b=0∧cx.may b∧b<w.heap.size)
  (c:D[t]?=some i) (k:∀s∈D,¬cQ t s) (l:¬cQ t s) (hv:VS D s y) (m:MemS w s) (n:eW cx D s)
  (o:∀b,(ownBl s).count b≤aV P b+F b):Inv cx (D.set t s) Q (tm.setIfInBounds t y) w:=by
 have d:t<D.length:=by
  rcases Wl t D.length with g|g
  ·exact g
  ·rw[Wh g]at c;cases c
 have a:∀b,bv (D.set t s) b+aV Q b≤bv D b+aV (P++Q) b+F b:=by intro b;have f:=bR ownBl s b D t i c;have q:=o b;rw[iU];unfold bv;omega
 refine⟨by have:=I.size;simpa using this,fun u s' hs=>?_,fun s' hs=>?_,fun s' hs=>?_,fun p r=>I.pend p (WF.2 (.inr r)),
  fun b=>?_,fun b hb=>?_,I.frame⟩
 ·by_cases e:u=t
  ·subst e;rw[Wp d]at hs;cases hs;have:u<tm.size:=by rw[←I.size];exact d
   simp only[WY,Array.getElem?_setIfInBounds_self,this,WN,Yd];exact zM l hv
  ·rw[Ws (fun h=>e h.symm)]at hs;have f:=I.val u s' hs;simp only[WY]at f ⊢;rw[YA (fun h=>e h.symm)];exact zM (k s' (Wd hs)) f
 ·rcases Xj hs with h|rfl
  ·exact I.mem s' h
  ·exact m
 ·rcases Xj hs with h|rfl
  ·exact sj (k s' h) (I.kind s' h)
  ·exact sj l n
 ·have f:=a b;have q:=I.once b;rcases W4 (F b)with g|g
  ·omega
  ·have:=j b g;omega
 ·have f:=a b;rcases W4 (F b)with g|g
  ·exact I.bnd b (by omega)
  ·exact(j b g).2.2
theorem Inv.fill {cx:Cx}{D:DSt}{P Q:List (DT×Value)}{tm:Array Value}{w:World}(I:Inv cx D (P++Q) tm w){t:Nat}{c s:DSl}{y:Value}
  (a:D[t]?=some c) (d:∀s∈D,¬cQ t s) (e:¬cQ t s) (hv:VS D s y) (f:MemS w s) (g:eW cx D s)
  (i:∀b,(ownBl s).count b≤aV P b):Inv cx (D.set t s) Q (tm.setIfInBounds t y) w :=
 I.fillF (fun _=>0) (fun b h=>absurd h (XP 0)) a d e hv f g i
theorem Inv.take {cx:Cx}{D:DSt}{P:List (DT×Value)}{tm:Array Value}{w:World}(I:Inv cx D P tm w){t:Nat}{a:DSl}{cs:List (DT×Value)}
  (hs₀:D[t]?=some a) (o:∀p∈cs,p.1∈rootsO a∧p.1∈aj a∧VT p.1 p.2) (O:∀p∈cs,∀h c q d z r,p.1 ≠ .s (.lent h c q) d z r)
  (y:∀b,aV cs b≤(ownBl a).count b) (A:∀k b ts off,a ≠ .im k b ts off) (B:∀f caps,a ≠ .fni f caps):Inv cx (bc t D) (cs++P) tm w:=by
 have j:=I.quiet t;have hs:(cV t D)[t]?=some ((a.dead (atH t) (qH t)).gone t):=by unfold cV St.dead;rw[Wr,Wr,hs₀];rfl
 have e:bc t D=(cV t D).set t .any:=rfl;have C:t<(cV t D).length:=by
  rcases Wl t (cV t D).length with g|g
  ·exact g
  ·rw[Wh g]at hs;cases hs
 have F:ownBl ((a.dead (atH t) (qH t)).gone t)=ownBl a:=by rw[qA,ym]
 have i:∀b,bv (bc t D) b+aV (cs++P) b≤bv (cV t D) b+aV P b:=by intro b;have n:=bR ownBl (Sl.any:DSl) b (cV t D) t _ hs;have L:=y b;rw[iU,e];rw[F]at n;unfold bv;have V:(ownBl (Sl.any:DSl)).count b=0:=rfl;omega
 have l:a∈D:=Wd hs₀;refine⟨by have:=j.size;rw[e];simpa using this,fun u s' hs'=>?_,fun s' hs'=>?_,fun s' hs'=>?_,fun p Q=>?_,
  fun b=>W6 (i b) (j.once b),fun b hb=>j.bnd b (WQ hb (i b)),I.frame⟩
 ·rw[e]at hs' ⊢;by_cases M:u=t
  ·subst M;rw[Wp C]at hs';cases hs';trivial
  ·rw[Ws (fun h=>M h.symm)]at hs';exact zM (qC s' (Wd hs')) (j.val u s' hs')
 ·rw[e]at hs';rcases Xj hs' with h|rfl
  ·exact j.mem s' h
  ·exact⟨fun t m=>by simp[aj]at m,fun t m=>by simp[rootsO]at m,trivial⟩
 ·rw[e]at hs' ⊢;rcases Xj hs' with h|rfl
  ·exact sj (qC s' h) (j.kind s' h)
  ·exact fun t m=>by simp[aj]at m
 ·rcases WF.1 Q with h|h
  ·obtain⟨G,n,L⟩:=o p h;have N:=I.mem a l;refine⟨L,N.1 _ n,fun y=>N.2.1 _ G y,fun H=>?_⟩;have R:bK cx D p.1:=by
    have:=I.kind a l;cases a with
    |im k b ts off=>exact absurd rfl (A k b ts off)
    |fni f caps=>exact absurd rfl (B f caps)
    |_=>exact this _ n
   have J:=O p h;generalize p.1=u at *;cases u with
   |v x=>intro x K;simp[bl]at K
   |any=>intro x K;simp[bl]at K
   |s k d z r =>
    cases k with
    |own=>simp[T.isOwn]at H
    |far=>exact R
    |lent S U q=>exact absurd rfl (J S U q d z r)
  ·exact I.pend p h
theorem M5 {t:Nat}{s:DSl}:¬cQ t (s.clean t):=by
 have h:s.clean t∈cV t [s]:=by simp[cV,St.dead,Sl.clean]
 exact qC _ h
theorem OR (t:Nat)(D:DSt)(s:DSl):(bc t D).set t s=(cV t D).set t s:=by unfold bc cV;rw[List.set_set]
theorem R3 {D:DSt}{t:Nat}{s:DSl}{y:Value}(h:VS D s y):VS (cV t D) (s.clean t) y:=NG (NF h)
theorem Qf {t:Nat}{w:World}{s:DSl}(h:MemS w s):MemS w (s.gone t):=
 ⟨by rw[A6];exact h.1,by rw[Cs];exact h.2.1,GE h.2.2⟩
theorem Oh {t:Nat}{w:World}{s:DSl}(h:MemS w s):MemS w (s.clean t):=Qf (GD h)
theorem LL {cx:Cx}{D:DSt}{t:Nat}{s:DSl}(h:eW cx D s):eW cx (cV t D) (s.clean t):=Dp (Do h)
theorem Cl (t:Nat)(s:DSl):ownBl (s.clean t)=ownBl s:=by unfold Sl.clean;rw[qA,ym]
theorem DF (t:Nat)(D:DSt)(b:Nat):bv (cV t D) b=bv D b:=by
 unfold bv cV;have:((St.dead (atH t) (qH t) D).map (Sl.gone t)).flatMap ownBl=D.flatMap ownBl:=by rw[X5, ←mI (atH t) (qH t) D];exact Wy (fun f=>List.flatMap f (St.dead (atH t) (qH t) D)) (funext (qA t))
 rw[this]
theorem Inv.putF {cx:Cx}{D:DSt}{P Q:List (DT×Value)}{tm:Array Value}{w:World}(I:Inv cx D (P++Q) tm w){t:Nat}{s:DSl}{y:Value}(F:Nat→Nat)
  (a:∀b,0<F b→F b≤1∧bv D b+aV (P++Q) b=0∧cx.may b∧b<w.heap.size)
  (c:t<D.length) (hv:VS D s y) (d:MemS w s) (e:eW cx D s) (f:∀b,(ownBl s).count b≤aV P b+F b):
  Inv cx (ba D (some t) s) Q (tm.setIfInBounds t y) w:=by
 show Inv cx ((bc t D).set t (s.clean t)) Q _ w;rw[OR];have g:t<(cV t D).length:=by simpa[cV,St.dead]using c
 exact(I.quiet t).fillF F (fun b hb=>by rw[DF];exact a b hb) (Wg g) qC M5 (R3 hv) (Oh d) (LL e) (fun b=>by rw[Cl];exact f b)
theorem Inv.put {cx:Cx}{D:DSt}{P Q:List (DT×Value)}{tm:Array Value}{w:World}(I:Inv cx D (P++Q) tm w){t:Nat}{s:DSl}{y:Value}
  (a:t<D.length) (hv:VS D s y) (c:MemS w s) (d:eW cx D s) (e:∀b,(ownBl s).count b≤aV P b):
  Inv cx (ba D (some t) s) Q (tm.setIfInBounds t y) w :=
 I.putF (fun _=>0) (fun b h=>absurd h (XP 0)) a hv c d e
theorem Inv.drewn {cx:Cx}{D:DSt}{P:List (DT×Value)}{tm:Array Value}{w:World}(I:Inv cx D P tm w):Inv cx D P tm w.drew where
 size:=I.size
 val:=I.val
 mem s hs:=by obtain⟨a,b,c⟩:=I.mem s hs;refine⟨fun t d=>(a t d).frame fun _ _ _=>rfl,fun t d e=>(b t d e).frame fun _ _ _=>rfl,?_⟩;cases s<;>exact c
 kind:=I.kind
 pend p f:=by obtain⟨a,b,c,g⟩:=I.pend p f;exact⟨a,b.frame fun _ _ _=>rfl,fun e=>(c e).frame fun _ _ _=>rfl,g⟩
 once:=I.once
 bnd:=I.bnd
 frame:=⟨I.frame.os,I.frame.tape,I.frame.output,I.frame.size,I.frame.same⟩
theorem Oo {k:Kd}{t:DT}{y:Value}:VT (t.kd k) y↔VT t y:=by
 cases t with
 |v x=>exact .rfl
 |any=>exact .rfl
 |s k' d z r=>cases k'<;>exact .rfl
theorem vd {w:World}{k k':Kd}{d:Dec}{z:Nat}{r:List (List DT)}(h:Holds w (.s k d z r)):Holds w (.s k' d z r):=by
 cases h with
 |e=>exact .e _ _ _
 |s _ _ _ _ h hsp c e f hb hcap hz hv hh=>exact .s _ _ _ _ h hsp c e f hb hcap hz hv hh
theorem I8 {w:World}{k:Kd}{t:DT}(h:Holds w t):Holds w (t.kd k):=by
 cases t with
 |v x=>exact h
 |any=>exact h
 |s k' d z r =>
  cases k' with
  |own=>exact vd h
  |_=>exact h
theorem sV (h c:Nat)(a:Bool)(t:DT):(t.kd (.lent h c a)).isOwn=false:=by
 cases t with
 |v x=>rfl
 |any=>rfl
 |s k' d z r=>cases k'<;>rfl
theorem fz {t:DT}(h:t.isOwn=false):ownR t=[]:=by unfold ownR;rw[h];rfl
structure Tells (cx:Cx)(D:DSt)(w:World)(s:DSl)(y:Value):Prop where
 val:VS D s y
 mem:MemS w s
 kind:eW cx D s
 noown:ownBl s=[]
section
variable  {δ β : Type}
def uu (D:St δ β)(t:Nat):Option (Sl δ β):=
 match D[t]? with
 |some (.one (.s .own _ _ rows))=>some (.al t 0 [] 0 rows.length)
 |some (.one u)=>some (.one u)
 |some (.agg ts)=>some (.agg (ts.mapIdx fun c u=>u.kd (.lent t c true)))
 |some (.box _ _)=>some (.pb t 0)
 |some (.al h c st lo len)=>some (.al h c st lo len)
 |some (.pb h off)=>some (.pb h off)
 |some (.pe h c st i off)=>some (.pe h c st i off)
 |some (.im k b ts off)=>some (.im k b ts off)
 |some (.fni f caps)=>some (.fni f caps)
 |some (.clo f hs)=>some (.clo f hs)
 |_=>none
def NL:Value→Bool| .slice _ _ _=>false|x=>x.oneCell'
def Fi (nil:δ):Value→Option (Sl δ β)| .slice none 0 0=>some (.one (.s .own nil 0 []))| .pointer none=>some .any|x=>if NL x then some (.one (.v x))else none
def opd (nil:δ)(D:St δ β):Operand→Option (Sl δ β)| .tmp t=>uu D t| .const x=>Fi nil x| .func f=>some (.fni f [])| .global _=>none
end
def nilD:Dec:=⟨0,0,0,true,none⟩
theorem Inv.copy {cx:Cx}{D:DSt}{P:List (DT×Value)}{tm:Array Value}{w:World}(I:Inv cx D P tm w){t:Nat}{s:DSl}(h:uu D t=some s):
  Tells cx D w s (tm.getD t undef):=by
 unfold uu at h;cases e:D[t]? with
 |none=>rw[e]at h;cases h
 |some p =>
  have hv:=I.val t p e;have a:=I.mem p (Wd e);have g:=I.kind p (Wd e);rw[e]at h;cases p with
  |any=>cases h
  |tup rs=>cases h
  |one u =>
   cases u with
   |v x=>cases h;exact⟨hv,a,g,rfl⟩
   |any=>cases h;exact⟨hv,a,g,rfl⟩
   |s k d z rows =>
    cases k with
    |far=>cases h;exact⟨hv,a,g,rfl⟩
    |lent m K B=>cases h;exact⟨hv,a,g,rfl⟩
    |own =>
     cases h;refine⟨?_,⟨fun t j=>by simp[aj]at j,fun t j=>by simp[rootsO]at j,trivial⟩,fun t j=>by simp[aj]at j,rfl⟩;refine⟨d,z,rows.length,_,⟨.s .own d z rows,by simp[av,e,aZ],rfl,.own,rows,rfl,rfl⟩,by omega,hv,?_,fun _=>Dec.addr_none (a.2.1 (.s .own d z rows) (by simp[rootsO]) rfl).sp⟩;intro hc;have n:=a.2.1 (.s .own d z rows) (by simp[rootsO]) rfl;have hs:=n.sp;cases n with
     |nil d z h q C=>omega
     |s d z rows m=>simp[Dec.addr,m,hs]
  |agg ts =>
   cases h;refine⟨?_,⟨?_,?_,trivial⟩,?_,?_⟩
   ·obtain⟨cs,F,G,H⟩:=hv;refine⟨cs,F,by simpa using G,fun i u y hi J=>?_⟩;rw[XV,We]at hi;obtain⟨u',hi,rfl⟩:=hi;exact Oo.2 (H i u' y hi J)
   ·intro u l;simp only[aj,Xm]at l;obtain⟨i,hi,rfl⟩:=l;exact I8 (a.1 _ (Xs hi))
   ·intro u l n;simp only[rootsO,Xm]at l;obtain⟨i,hi,rfl⟩:=l;rw[sV]at n;cases n
   ·intro u l;simp only[aj,Xm]at l;obtain⟨i,hi,rfl⟩:=l;have o:=g (ts[i]) (Xs hi);have hc:av D t i=some ts[i]:=by simp[av,e,aZ]
    generalize ts[i]=u at *;cases u with
    |v x=>trivial
    |any=>trivial
    |s k d z r =>
     cases k with
     |own=>exact⟨_,hc,rfl,fun x A=>(by simp only[cJ]at A ⊢;exact A),fun _=>⟨_,_,rfl,rfl⟩⟩
     |far=>exact o
     |lent h c B=>exact o
   ·simp only[ownBl,WB,Xm];rintro u ⟨i,hi,rfl⟩;exact fz (sV _ _ _ _)
  |box b ts =>cases h;refine⟨⟨b,ts,e,by rw[hv];rfl⟩,⟨fun t j=>by simp[aj]at j,fun t j=>by simp[rootsO]at j,trivial⟩,fun t j=>by simp[aj]at j,rfl⟩
  |al m c st lo len=>cases h;exact⟨hv,a,g,rfl⟩
  |pb m off=>cases h;exact⟨hv,a,g,rfl⟩
  |pe m c st i off=>cases h;exact⟨hv,a,g,rfl⟩
  |im k b ts off=>cases h;exact⟨hv,a,g,rfl⟩
  |fni f caps=>cases h;exact⟨hv,a,g,rfl⟩
  |clo f hs=>cases h;exact⟨hv,a,g,rfl⟩
theorem Tells.one_v {cx:Cx}{D:DSt}{w:World}(x:Value)(b:x.oneCell'=true):Tells cx D w (.one (.v x)) x :=
 ⟨⟨rfl,b⟩,⟨fun t a=>by simp[aj]at a;subst a;exact .v x,(fun t a c=>by simp[rootsO]at a;subst a;cases c),trivial⟩,
  fun t a=>by simp[aj]at a;subst a;trivial,rfl⟩
theorem Inv.opd {cx:Cx}{D:DSt}{P:List (DT×Value)}{a:Act}{w:World}(I:Inv cx D P a.tmps w){x:Operand}{s:DSl}(h:opd nilD D x=some s):
  Tells cx D w s (a.eval x):=by
 cases x with
 |tmp t=>exact I.copy h
 |global g=>cases h
 |func f =>simp only[Am.opd]at h;cases h;exact⟨rfl,⟨fun t b=>by simp[aj]at b,fun t b=>by simp[rootsO]at b,fun p c=>by simp at c⟩,fun p c=>by simp at c,rfl⟩
 |const v =>
  simp only[Am.opd]at h;unfold Fi at h;split at h
  ·cases h;exact⟨rfl,⟨fun t b=>by simp[aj]at b;subst b;exact .e _ _ _,(fun t b d=>by simp[rootsO]at b;subst b;exact .nil _ _ rfl rfl rfl),trivial⟩,
    fun t b=>by simp[aj]at b;subst b;trivial,by simp[ownBl,ownR,T.isOwn,cJ,nilD]⟩
  ·cases h;exact⟨trivial,⟨fun t b=>by simp[aj]at b,fun t b=>by simp[rootsO]at b,trivial⟩,fun t b=>by simp[aj]at b,rfl⟩
  ·split at h
   ·rename_i hc;cases h;exact .one_v _ (by
     unfold NL at hc;split at hc
     ·cases hc
     ·exact hc)
   ·cases h
structure Grew (w w':World):Prop where
 os:w'.os=w.os
 tape:w'.tape=w.tape
 output:w'.output=w.output
 size:w.heap.size≤w'.heap.size
 same:∀b,b<w.heap.size→w'.heap[b]?=w.heap[b]?
theorem Grew.alloc (w:World)(o:Obj):Grew w (w.alloc o):=
 ⟨rfl,rfl,rfl,by simp,fun b hb=>by show(w.heap.push o)[b]?=_;rw[Array.getElem?_push,Wo (by omega)]⟩
theorem Grew.drew (w:World):Grew w w.drew:=⟨rfl,rfl,rfl,WU _,fun _ _=>rfl⟩
theorem Grew.refl (w:World):Grew w w:=⟨rfl,rfl,rfl,WU _,fun _ _=>rfl⟩
theorem Grew.trans {a b c:World}(h:Grew a b)(k:Grew b c):Grew a c :=
 ⟨k.os.trans h.os,k.tape.trans h.tape,k.output.trans h.output,W6 h.size k.size,
  fun i hi=>(k.same i (WQ hi h.size)).trans (h.same i hi)⟩
theorem Lies.grew {w w':World}(g:Grew w w'){b:Nat×Nat}{ts:List DT}(h:Lies w b ts):Lies w' b ts:=by obtain⟨c,e,f,hb,hv⟩:=h;exact⟨c,e,f,by rw[g.same _ (dY hb)];exact hb,hv⟩
theorem Free.grew {w w':World}(g:Grew w w'){b:Nat×Nat}{n:Nat}(a:b.1<w.heap.size)(h:Free w b n):Free w' b n:=by intro c e lo hi hb;rw[g.same _ a]at hb;exact h c e lo hi hb
theorem Lies.lt {w:World}{b:Nat×Nat}{ts:List DT}(h:Lies w b ts):b.1<w.heap.size:=by obtain⟨c,e,f,hb,hv⟩:=h;exact dY hb
theorem MemS.grew {w w':World}(g:Grew w w'){s:DSl}(h:MemS w s):MemS w' s:=by
 obtain⟨d,e,a⟩:=h;refine⟨fun t c=>(d t c).frame fun b _ hb=>g.same b hb,fun t c i=>(e t c i).frame fun b _ hb=>g.same b hb,?_⟩;cases s with
 |box b ts=>exact⟨a.1.grew g,a.2.grew g a.1.lt⟩
 |im k b ts off=>exact Lies.grew g a
 |fni f caps=>exact fun p j=>(a p j).grew g
 |_=>trivial
theorem Cx.Fr.grew {cx:Cx}{w w':World}(g:Grew w w')(h:cx.Fr w):cx.Fr w' :=
 ⟨g.os.trans h.os,g.tape.trans h.tape,g.output.trans h.output,W6 h.size g.size,
  fun b hb=>(g.same b (WQ hb.1 h.size)).trans (h.same b hb)⟩
theorem Inv.grew {cx:Cx}{D:DSt}{P:List (DT×Value)}{tm:Array Value}{w w':World}(I:Inv cx D P tm w)(g:Grew w w'):Inv cx D P tm w' where
 size:=I.size
 val:=I.val
 mem s hs:=(I.mem s hs).grew g
 kind:=I.kind
 pend p a:=by obtain⟨c,d,e,f⟩:=I.pend p a;exact⟨c,d.frame fun b _ hb=>g.same b hb,fun h=>(e h).frame fun b _ hb=>g.same b hb,f⟩
 once:=I.once
 bnd b hb:=⟨(I.bnd b hb).1,WQ (I.bnd b hb).2 g.size⟩
 frame:=I.frame.grew g
theorem Tells.grew {cx:Cx}{D:DSt}{w w':World}{s:DSl}{y:Value}(h:Tells cx D w s y)(g:Grew w w'):Tells cx D w' s y :=
 ⟨h.val,h.mem.grew g,h.kind,h.noown⟩
section
inductive Sh where|bool|int (k:IntKind)|str|slice (e:Nat)|struct (offs:List Nat)|ptr (e:Nat)|fn|other deriving DecidableEq
def Sh.agg:Sh→Bool| .struct _=>true|_=>false
structure TI where
 size:Nat
 bytes:Nat
 zero:List (T Unit)
 sh:Sh
def zT (n:Nat):Value→T Unit| .slice none 0 0=>.s .own () n []|x=>.v x
def Ug (P:Program):Nat→TypeId→List Nat
 | 0,_=>[]
 |k+1,t =>
  match P.underlying t with
  |some (.slice e)=>[match P.info? e with|some i=>i.size|none=>0]
  |some (.struct fs)=>fs.toList.flatMap fun f=>Ug P k f.type
  |_=>[0]
def ek (P:Program)(t:TypeId)(ys:List Value):List (T Unit):=ys.mapIdx fun j y=>zT ((Ug P 6 t).getD j 0) y
def yB (P:Program):TypeDesc→Sh
 | .bool=>.bool
 | .int k=>.int k
 | .string=>.str
 | .slice e=>.slice e
 | .pointer e=>.ptr e
 | .func _ _ _=>.fn
 | .struct fs=>if fs.all (fun f=>(P.info? f.type).any fun i=>i.size != 0)then .struct (fs.toList.map (·.offset))else .other
 |_=>.other
def m4 (P:Program)(t:TypeId):Option TI :=
 (P.info? t).bind fun i=>(P.underlying t).bind fun d=>i.zero.bind fun z =>if z.cells.toList.all (·.oneCell')then some { size:=i.size,bytes:=i.bytes,zero:=ek P t z.cells.toList,sh:=yB P d }else none
structure Tab where
 ts:List (Nat×TI)
 eqs:List (Nat×List (Nat×Nat)):=[]
 pls:List (Nat×List (Nat×Nat)):=[]
 io:List (Nat×Nat):=[]
 ars:List (Nat×Nat):=[]
 addr:List (Nat×List Nat):=[]
 gv:List Nat:=[]
 pw:List (Nat×List Nat):=[]
def rx (P:Program)(t:TypeId):Option (List (Nat×Nat)):=
 match P.underlying t with
 |some (.struct fs)=>fs.toList.mapM (fun f=>(P.info? f.type).map fun i=>(f.offset,i.size))
 |_=>none
def Oz (P:Program)(t:TypeId):Option (List (Nat×Nat)):=
 match P.underlying t with
 | some (.struct fs) => if P.stoodInHeld t = false ∧ P.eqGuardType P.depth t = false ∧ fs.all (fun f => (f.name == "_") == false) = true then some (fs.toList.map fun f => (f.offset, f.type)) else none
 |_=>none
def R6 (P:Program)(t:TypeId):Option Nat :=
 match P.underlying t with
 |some (.array n e)=>match P.underlying e,P.info? e with|some (.pointer _),some i=>if i.size=1 then some n else none|_,_=>none
 |_=>none
def I7 (P:Program)(f:FuncId)(offs:List Nat):Prop :=∀(b:Nat×Nat)(w:World),Calls P f #[.pointer (some ⟨b.1,b.2,none⟩)] w fun e w'=>e = .returned (.agg (offs.map fun o=>Value.pointer (some ⟨b.1,b.2+o,none⟩)).toArray)∧Grew w w'
structure bz (P:Program)(tab:Tab):Prop where
 ts:∀p∈tab.ts,m4 P p.1=some p.2
 eqs:∀p∈tab.eqs,Oz P p.1=some p.2
 pls:∀p∈tab.pls,rx P p.1=some p.2
 mixed:P.follows .mixedOrders=true
 ars:∀p∈tab.ars,R6 P p.1=some p.2
 addr:∀p∈tab.addr,I7 P p.1 p.2
def Tab.ti (tab:Tab)(t:Nat):Option TI:=tab.ts.lookup t
def Tab.pl (tab:Tab)(t:Nat):Option (List (Nat×Nat)):=tab.pls.lookup t
def Tab.eq (tab:Tab)(t:Nat):Option (List (Nat×Nat)):=tab.eqs.lookup t
theorem iK {α:Type}:∀{l:List (Nat×α)}{t:Nat}{x:α},l.lookup t=some x→(t,x)∈l
 |[],_,_,h=>by simp at h
 |(u,y)::l,t,x,h=>by
  rw[List.lookup_cons]at h;split at h
  ·rename_i e;cases h;have:t=u:=by simpa using e
   subst this;exact List.mem_cons_self
  ·exact XJ _ (iK h)
variable  {P : Program}{tab : Tab}
theorem Tab.ok (h:bz P tab){t:Nat}{ti:TI}(e:tab.ti t=some ti):m4 P t=some ti:=h.ts _ (iK e)
theorem Tab.okPl (h:bz P tab){t:Nat}{l:List (Nat×Nat)}(e:tab.pl t=some l):rx P t=some l:=h.pls _ (iK e)
theorem Tab.okEq (h:bz P tab){t:Nat}{l:List (Nat×Nat)}(e:tab.eq t=some l):Oz P t=some l:=h.eqs _ (iK e)
section
variable  {t : Nat}{ti : TI}
theorem gK (h:m4 P t=some ti):∃i d z,P.info? t=some i∧P.underlying t=some d∧i.zero=some z∧i.size=ti.size∧i.bytes=ti.bytes∧ti.zero=ek P t z.cells.toList∧ti.sh=yB P d∧z.cells.toList.all (·.oneCell')=true:=by
 unfold m4 at h;cases hi:P.info? t with
 |none=>simp[hi]at h
 |some i =>
  cases hd:P.underlying t with
  |none=>simp[hi,hd]at h
  |some d =>
   cases hz:i.zero with
   |none=>simp[hi,hd,hz]at h
   |some z =>
    simp only[hi,hd,hz,V9]at h;split at h
    ·rename_i a;cases h;exact⟨i,d,z,rfl,rfl,hz,rfl,rfl,rfl,rfl,a⟩
    ·cases h
theorem md (h:m4 P t=some ti)(w:World):(sizeOf t).run P w = .ok ti.size w:=by obtain⟨i,d,z,a,c,e,b,f,g,j,k⟩:=gK h;simp[sizeOf,typeInfo,a,b]
theorem gk (h:m4 P t=some ti){e:Nat}(hs:ti.sh = .slice e):P.underlying t=some (.slice e):=by obtain⟨i,d,z,c,b,f,g,j,k,a,l⟩:=gK h;rw[b];rw[hs]at a;cases d<;>simp only[yB]at a<;>first|(cases a;done)|(split at a<;>cases a;done)|(cases a;rfl)
theorem Od (h:m4 P t=some ti)(hs:ti.sh = .bool):P.underlying t=some .bool:=by obtain⟨i,d,z,c,b,e,f,g,j,a,k⟩:=gK h;rw[b];rw[hs]at a;cases d<;>simp only[yB]at a<;>first|(cases a;done)|(split at a<;>cases a;done)|rfl
theorem xu (h:m4 P t=some ti)(hs:ti.sh = .str):P.underlying t=some .string:=by obtain⟨i,d,z,c,b,e,f,g,j,a,k⟩:=gK h;rw[b];rw[hs]at a;cases d<;>simp only[yB]at a<;>first|(cases a;done)|(split at a<;>cases a;done)|rfl
theorem E2 (h:m4 P t=some ti){k:IntKind}(hs:ti.sh = .int k):P.underlying t=some (.int k):=by obtain⟨i,d,z,c,b,e,f,g,j,a,l⟩:=gK h;rw[b];rw[hs]at a;cases d<;>simp only[yB]at a<;>first|(cases a;done)|(split at a<;>cases a;done)|(cases a;rfl)
theorem RQ (h:m4 P t=some ti){offs:List Nat}(hs:ti.sh = .struct offs):
  ∃fs,P.underlying t=some (.struct fs)∧offs=fs.toList.map (·.offset)∧∀f∈fs,∃i,P.info? f.type=some i∧i.size≠0:=by
 obtain⟨i,d,z,e,c,g,j,k,l,b,m⟩:=gK h;rw[c];rw[hs]at b;cases d<;>simp only[yB]at b<;>first|(cases b;done)|skip
 split at b
 ·rename_i fs a;cases b;refine⟨fs,rfl,rfl,fun f hf=>?_⟩;rw[Yv]at a;have:=a f hf;cases hi:P.info? f.type with
  |none=>simp[hi]at this
  |some i=>simp[hi]at this;exact⟨i,rfl,this⟩
 ·cases b
theorem LD (h:m4 P t=some ti)(a:ti.sh ≠ .other)(w:World):(isAgg t).run P w = .ok ti.sh.agg w:=by obtain⟨i,d,z,e,b,f,g,j,k,c,l⟩:=gK h;rw[c]at a ⊢;unfold isAgg;cases d<;>simp[run_underlying b,yB,Sh.agg]<;>simp[yB]at a;split<;>simp_all
theorem xv (h:m4 P t=some ti)(w:World):∃z,(zeroValue t).run P w = .ok z w∧ti.zero=ek P t z.cells.toList∧z.cells.toList.all (·.oneCell')=true:=by obtain⟨i,d,z,a,f,b,g,j,c,k,e⟩:=gK h;exact⟨z,by simp[zeroValue,typeInfo,a,b],c,e⟩
end
end
section
def Pf (op:BinOp)(k:IntKind)(a b:Int):Option Value :=
 match op with
 | .add=>some (.int k (k.wrap (a+b)))
 | .sub=>some (.int k (k.wrap (a-b)))
 | .mul=>some (.int k (k.wrap (a*b)))
 | .quo=>if b=0 then none else some (.int k (k.wrap (a.tdiv b)))
 | .rem=>if b=0 then none else some (.int k (a.tmod b))
 | .and=>some (.int k (k.wrap (BitVec.ofInt k.bits a &&& BitVec.ofInt k.bits b).toNat))
 | .or=>some (.int k (k.wrap (BitVec.ofInt k.bits a |||BitVec.ofInt k.bits b).toNat))
 | .xor=>some (.int k (k.wrap (BitVec.ofInt k.bits a ^^^ BitVec.ofInt k.bits b).toNat))
 | .eql=>some (.bool (a==b))
 | .neq=>some (.bool (a != b))
 | .lss=>some (.bool (decide (a<b)))
 | .leq=>some (.bool (decide (a≤b)))
 | .gtr=>some (.bool (decide (a>b)))
 | .geq=>some (.bool (decide (a≥b)))
 |_=>none
def shV (op:BinOp)(k:IntKind)(a b:Int):Option Value :=
 if b<0 then none else
 match op with
 | .shl=>some (.int k (k.wrap (a*2 ^ (min b.toNat k.bits))))
 | .shr=>some (.int k (a.fdiv (2 ^ (min b.toNat k.bits))))
 |_=>none
def dC:Nat:=4611686018427387904
def P5 (op:BinOp)(a b:Y9):Option Value :=
 match op with
 | .add=>if a.size+b.size≤dC then some (.string (a++b))else none
 | .eql=>some (.bool (a.toList==b.toList))
 | .neq=>some (.bool (!(a.toList==b.toList)))
 | .lss=>some (.bool (Op.bytesLess a.toList b.toList))
 | .leq=>some (.bool (Op.bytesLess a.toList b.toList ||a.toList==b.toList))
 | .gtr=>some (.bool (!(Op.bytesLess a.toList b.toList ||a.toList==b.toList)))
 | .geq=>some (.bool (!Op.bytesLess a.toList b.toList))
 |_=>none
def zO (tab:Tab)(op:BinOp)(t:Nat)(x y:Value):Option Value :=
 match x,y with
 | .int k a,.int k' b =>
  match op with
  | .shl=>shV .shl k a b
  | .shr=>shV .shr k a b
  |op=>if k=k' then Pf op k a b else none
 | .string a,.string b=>P5 op a b
 | .bool a,.bool b =>
  match tab.ti t with
  |some ti=>if ti.sh = .bool then(match op with| .eql=>some (.bool (a==b))| .neq=>some (.bool (!(a==b)))|_=>none)else none
  |none=>none
 |_,_=>none
variable  {P : Program}{tab : Tab}
theorem SH {op:BinOp}{k:IntKind}{a b:Int}{z:Value}(t:TypeId)(w:World)(h:Pf op k a b=some z):
  (binOp op t (.int k a) (.int k b)).run P w = .ok z w:=by
 unfold Pf at h;cases op<;>simp only[WO,reduceCtorEq]at h<;>try (subst h;simp[binOp,Op.intArith,Op.intBits,Op.intCmp];done)
 ·split at h
  ·cases h
  ·rename_i hb;cases h;simp[binOp,Op.intDiv,hb]
 ·split at h
  ·cases h
  ·rename_i hb;cases h;simp[binOp,Op.intDiv,hb]
theorem Oa {op:BinOp}(c:op = .shl∨op = .shr){k k':IntKind}{a b:Int}{z:Value}(t:TypeId)(w:World)(h:shV op k a b=some z):
  (binOp op t (.int k a) (.int k' b)).run P w = .ok z w:=by
 unfold shV at h;split at h
 ·cases h
 ·rename_i hb;rcases c with rfl|rfl<;>simp only[WO]at h<;>subst h<;>simp[binOp,Op.shift,hb]
theorem ST {op:BinOp}{a b:Y9}{z:Value}(t:TypeId)(w:World)(h:P5 op a b=some z):
  (binOp op t (.string a) (.string b)).run P w = .ok z w:=by
 unfold P5 at h;cases op<;>simp only[WO,reduceCtorEq]at h<;>try (subst h;simp[binOp,Op.stringOp];done)
 split at h
 ·rename_i hs;cases h;simp[binOp,Op.stringOp];unfold dC at hs;omega
 ·cases h
theorem R8 (ok:bz P tab){op:BinOp}{t:TypeId}{x y z:Value}(d e:Operand)(w:World)(h:zO tab op t x y=some z):
  (do eqGuard op t d e x y;binOp op t x y:Sem Value).run P w = .ok z w:=by
 unfold zO at h;split at h
 ·rename_i k a k' b;rw[eqGuard_at_int];split at h
  ·simpa using Oa (.inl rfl) t w h
  ·simpa using Oa (.inr rfl) t w h
  ·split at h
   ·rename_i f;subst f;simpa using SH t w h
   ·cases h
 ·rw[eqGuard_at_string];simpa using ST t w h
 ·rename_i a b;rw[eqGuard_at_bool];split at h
  ·rename_i ti c;split at h
   ·rename_i hs;have hb:=Od (Tab.ok ok c) hs;split at h
    ·cases h;simp[run_eql_bool w t a b hb]
    ·cases h;simp[run_neq_bool w t a b hb]
    ·cases h
   ·cases h
  ·cases h
 ·cases h
theorem R7 {op:BinOp}{t:TypeId}{x y z:Value}(h:zO tab op t x y=some z):z.oneCell'=true:=by
 unfold zO Pf shV P5 at h;repeat' split at h
 all_goals first|(cases h;rfl)|(cases h;done)
def IS:Sh→Value→Value→Option Bool| .bool,.bool a,.bool b=>some (a==b)| .int k,.int c a,.int d b=>if c=k∧d=k then some (a==b)else none| .str,.string a,.string b=>some (a.toList==b.toList)|_,_,_=>none
def kG {δ:Type}(tab:Tab)(us c:List (T δ)):List (Nat×Nat)→Option Bool
 |[]=>some true
 |(off,d)::r =>
  match tab.ti d,us[off]?,c[off]? with
  |some ti,some (.v a),some (.v b)=>if ti.size=1∧ti.sh.agg=false then(IS ti.sh a b).bind fun q=>(kG tab us c r).map fun s=>q&&s else none
  |_,_,_=>none
def eqS {δ:Type}(tab:Tab)(op:BinOp)(t:Nat)(us a:List (T δ)):Option Value :=
 match op with
 | .eql=>((tab.eq t).bind (kG tab us a)).map fun b=>.bool b
 | .neq=>((tab.eq t).bind (kG tab us a)).map fun b=>.bool (!b)
 |_=>none
theorem Qy {t:Nat}{ti:TI}(h:m4 P t=some ti){a b:Value}{q:Bool}(e:IS ti.sh a b=some q)(d:Nat)(w:World):(Op.equalIn (d+1) t a b).run P w = .ok q w:=by
 unfold IS at e;split at e
 ·rename_i hs;cases e;exact run_equalIn_bool' w d t _ _ (Od h hs)
 ·rename_i k f a g b hs;split at e
  ·rename_i c;obtain⟨rfl,rfl⟩:=c;cases e;exact run_equalIn_int w d t _ _ _ _ (E2 h hs)
  ·cases e
 ·rename_i hs;cases e;exact run_equalIn_string w d t _ _ (xu h hs)
 ·cases e
theorem BY (ok:bz P tab){us l:List DT}{xs ys:Array Value}(C:∀(i:Nat)(u:DT)(y:Value),us[i]?=some u→xs[i]?=some y→VT u y)(D:∀(i:Nat)(u:DT)(y:Value),l[i]?=some u→ys[i]?=some y→VT u y)
  (F : us.length = xs.size) (G : l.length = ys.size) (d : Nat) (w : World) : ∀ (fs : List Field) {b : Bool}, (∀ f ∈ fs, (f.name == "_") = false) → kG tab us l (fs.map fun f => (f.offset, f.type)) = some b →
   (Op.eqFields (d+1) xs ys fs).run P w = .ok b w
 |[],b,m,e=>by cases e;simp[Op.eqFields]
 |f::fs,b,m,e=>by
  simp only[Wv,kG]at e;split at e
  case h_2=>cases e
  rename_i ti a c n o hv;split at e
  case isFalse=>cases e
  rename_i j;simp only[Wb,We]at e;obtain⟨q,p,s,H,rfl⟩:=e;have k:=Tab.ok ok n;have r:xs[f.offset]?=some a:=by
   have t:f.offset<us.length:=by
    rcases Wl f.offset us.length with g|g
    ·exact g
    ·rw[Wh g]at o;cases o
   have:=C _ _ _ o (WR (by omega));rw[WR (by omega),this.1]
  have v:ys[f.offset]?=some c:=by
   have t:f.offset<l.length:=by
    rcases Wl f.offset l.length with g|g
    ·exact g
    ·rw[Wh g]at hv;cases hv
   have:=D _ _ _ hv (WR (by omega));rw[WR (by omega),this.1]
  have hs:=md k w;have I:ti.sh ≠ .other:=by intro h;rw[h]at p;simp[IS]at p
  have x:=LD k I w;rw[j.2]at x;have z:(part f.type xs f.offset).run P w = .ok a w:=by simp[part,hs,x,r,j.1]
  have A:(part f.type ys f.offset).run P w = .ok c w:=by simp[part,hs,x,v,j.1]
  have B : f.name ≠ "_" := by simpa using m f (by simp)
  have J:=BY ok C D F G d w fs (fun g K=>m g (by simp[K])) H;simp only[Op.eqFields,Wa B,Sem.run_bind,z,A,Qy k p d w,Result.andThen_ok];cases q
  ·simp
  ·simpa using J
end
theorem Holds.getN {w:World}:∀(st:List (Nat×Nat)){t n:DT},Holds w t→getN t st=some n→Holds w n
 |[],t,n,h,a=>by cases a;exact h
 |(i,c)::st,t,n,h,a=>by
  cases t with
  |v x=>simp[Am.getN]at a
  |any=>simp[Am.getN]at a
  |s k d z rows =>
   simp only[Am.getN,Wb]at a;obtain⟨u,⟨row,hi,b⟩,a⟩:=a;cases h with
   |e=>simp at hi
   |s _ _ _ _ h hsp g j f hb hcap hz hv hh=>exact Holds.getN st (hh i row c u hi b) a
theorem OwnT.getN {w:World}:∀(st:List (Nat×Nat)){t n:DT},OwnT w t→getN t st=some n→OwnT w n
 |[],t,n,h,a=>by cases a;exact h
 |(i,c)::st,t,n,h,a=>by
  cases t with
  |v x=>simp[Am.getN]at a
  |any=>simp[Am.getN]at a
  |s k d z rows =>
   simp only[Am.getN,Wb]at a;obtain⟨u,⟨row,hi,b⟩,a⟩:=a;cases h with
   |nil=>simp at hi
   |s _ _ _ h hsp f g lo e hb hcap hroom hf hh=>exact OwnT.getN st (hh i row c u hi b) a
theorem wM:∀(st:List (Nat×Nat)){t n:DT},getN t st=some n→∀b∈bl n,b∈bl t
 |[],t,n,e=>by cases e;exact fun b hb=>hb
 |(i,c)::st,t,n,e=>by
  cases t with
  |v x=>simp[getN]at e
  |any=>simp[getN]at e
  |s k d z rows =>simp only[getN,Wb]at e;obtain⟨u,⟨row,hi,a⟩,e⟩:=e;exact fun b hb=>lv hi a (wM st e b hb)
theorem uc {w:World}{b:Nat}{c:Array Value}{e:TypeId}{f:Nat×Nat}(h:w.heap[b]?=some (.cells c e f))(o:Nat):w.cell? ⟨b,o,none⟩=c[o]?:=by simp[World.cell?,h]
section
variable  {δ β : Type}
def boxRange (D:St δ β)(h o n:Nat):Option (List (T δ)):=
 match D[h]? with
 |some (.box _ ts)=>if o+n≤ts.length then some ((ts.drop o).take n)else none
 |_=>none
def rowRange (D:St δ β)(h c:Nat)(st:List (Nat×Nat))(i o n:Nat):Option (List (T δ)):=
 match av D h c with
 |some t=>if t.isOwn then
   match getN t st with
   |some (.s _ _ _ rows)=>(rows[i]?).bind fun row=>if o+n≤row.length then some ((row.drop o).take n)else none
   |_=>none
  else none
 |none=>none
end
theorem ce {D:DSt}{h c:Nat}{t:DT}(e:av D h c=some t):∃s,D[h]?=some s∧s∈D∧t∈aj s∧t∈rootsO s∧(t.isOwn=true→∀b∈bl t,b∈ownBl s):=by
 unfold av at e;simp only[Wb]at e;obtain⟨cs,⟨s,hs,hc⟩,ht⟩:=e;refine⟨s,hs,Wd hs,?_⟩;have a:=Wd ht;cases s with
 |one u=>cases hc;exact⟨a,a,fun d b hb=>by simp at a;subst a;simp[ownBl,ownR,d,hb]⟩
 |agg ts=>cases hc;exact⟨a,a,fun d b hb=>by simp only[ownBl,Wq];exact⟨t,a,by simp[ownR,d,hb]⟩⟩
 |box f ts=>cases hc;exact⟨a,a,fun d b hb=>by simp only[ownBl,WE,Wq];exact .inr ⟨t,a,by simp[ownR,d,hb]⟩⟩
 |_=>cases hc
structure Cells (w:World)(b o:Nat)(cs:List DT):Prop where
 lies:∃c e f,w.heap[b]?=some (.cells c e f)∧∀(j:Nat)(t:DT),cs[j]?=some t→∃y,c[o+j]?=some y∧VT t y
 holds:∀t∈cs,Holds w t
theorem Inv.boxRange {cx:Cx}{D:DSt}{P:List (DT×Value)}{tm:Array Value}{w:World}(I:Inv cx D P tm w){h o n:Nat}{cs:List DT}(e:boxRange D h o n=some cs):
  ∃b ts,D[h]?=some (.box b ts)∧cs.length=n∧Cells w b.1 (b.2+o) cs∧(∀j,j<n→cs[j]?=ts[o+j]?)∧o+n≤ts.length:=by
 unfold Am.boxRange at e;split at e
 ·rename_i b ts hd;split at e
  ·rename_i l;cases e;have i:=I.mem _ (Wd hd);obtain⟨c,e,f,hb,hv⟩:=i.2.2.1;have k:∀j,j<n→((ts.drop o).take n)[j]?=ts[o+j]?:=by intro j a;rw[Xl,Wa a,Xa]
   refine⟨b,ts,hd,by simp;omega,⟨⟨c,e,f,hb,fun j t a=>?_⟩,fun t m=>i.1 t ?_⟩,k,l⟩
   ·have d:j<n:=by
     rcases Wl j n with g|g
     ·exact g
     ·rw[Xl,Wo (by omega)]at a;cases a
    rw[k j d]at a;have:=hv _ t a;rw[←Xz]at this;exact this
   ·exact Xw (XK m)
  ·cases e
 ·cases e
theorem Inv.rowRange {cx:Cx}{D:DSt}{P:List (DT×Value)}{tm:Array Value}{w:World}(I:Inv cx D P tm w){h c:Nat}{st:List (Nat×Nat)}{i o n:Nat}{cs:List DT}
  (e:rowRange D h c st i o n=some cs):
  ∃t k d z rows row,av D h c=some t∧t.isOwn=true∧Holds w t∧OwnT w t∧getN t st=some (.s k d z rows)∧rows[i]?=some row∧cs.length=n∧o+n≤row.length ∧
   Cells w d.b (d.o+i*z+o) cs∧(∀j,j<n→cs[j]?=row[o+j]?):=by
 unfold Am.rowRange at e;split at e
 ·rename_i t v;split at e
  ·rename_i x;split at e
   ·rename_i k d z rows y;simp only[Wb]at e;obtain⟨row,hi,e⟩:=e;split at e
    ·rename_i C;cases e;obtain⟨s,hs,l,A,m,_⟩:=ce v;have p:=I.mem s l;have hh:=Holds.getN st (p.1 t A) y;have B:∀j,j<n→((row.drop o).take n)[j]?=row[o+j]?:=by intro j a;rw[Xl,Wa a,Xa]
     refine⟨t,k,d,z,rows,row,v,x,p.1 t A,p.2.1 t m x,y,hi,by simp;omega,C,?_,B⟩;cases hh with
     |e=>simp at hi
     |s _ _ _ _ h hsp F G f hb hcap hz hv hh =>
      refine⟨⟨F,G,f,hb,fun j u a=>?_⟩,fun u H=>?_⟩
      ·have q:j<n:=by
        rcases Wl j n with g|g
        ·exact g
        ·rw[Xl,Wo (by omega)]at a;cases a
       rw[B j q]at a;have:=hv i row _ u hi a;rw[←Xz]at this;exact this
      ·have r:=Xw (XK H);obtain⟨j,a⟩:=Wm r;exact hh i row j u hi a
    ·cases e
   ·cases e
  ·cases e
 ·cases e
theorem Cells.load {P:Program}{t:TypeId}{ti:TI}(h:m4 P t=some ti)(q:ti.sh ≠ .other){w:World}{b o:Nat}{cs:List DT}(C:Cells w b o cs)(r:cs.length=ti.size)
  (m:ti.sh.agg=false→cs.length=1):
  ∃y,(Instr.loadAt t (.pointer (some ⟨b,o,none⟩))).run P w = .ok y w ∧
   (if ti.sh.agg then ∃ys:Array Value,y = .agg ys∧VCells cs ys.toList else ∃u,cs=[u]∧VT u y):=by
 obtain⟨c,e,f,hb,hv⟩:=C.lies;by_cases n:ti.sh.agg=true
 ·have hc:∀j,j<cs.length→∃y,c[o+j]?=some y∧∀u,cs[j]?=some u→VT u y:=by intro j d;obtain⟨y,m,s⟩:=hv j cs[j] (Wg d);exact⟨y,m,fun u k=>by rw[Wg d]at k;cases k;exact s⟩
  let f':Nat→Value:=fun j=>(c[o+j]?).getD undef
  have hf:∀j,j<ti.size→w.cell? (Addr.add ⟨b,o,none⟩ j)=some (f' j):=by
   intro j d;obtain⟨y,a,_⟩:=hc j (by omega);have:Addr.add ⟨b,o,none⟩ j=⟨b,o+j,none⟩:=by unfold Addr.add;split<;>simp_all
   rw[this,uc hb];simp[f',a]
  refine⟨.agg ((List.range ti.size).map f').toArray,?_,?_⟩
  rotate_left
  ·rw[Wa n];refine⟨_,rfl,by simpa using r,fun j u y d a=>?_⟩;simp only[Wr,We]at a;obtain⟨x,l,rfl⟩:=a;have p:j<cs.length:=by
    rcases Wl j cs.length with g|g
    ·exact g
    ·rw[Wh g]at d;cases d
   rw[Xu (by omega)]at l;cases l;obtain⟨y,a,k⟩:=hc j p;simp only[f',a,Yd];exact k u d
  ·have:=run_loadCells (P:=P) w ⟨b,o,none⟩ ti.size f' hf;simp[Instr.loadAt,loadVar,Instr.sureAddr,LD h q,n,md h,this]
 ·have i:ti.sh.agg=false:=by simpa using n
  have v:=m i;obtain⟨u,rfl⟩:∃u,cs=[u]:=List.length_eq_one_iff.1 v;obtain⟨y,a,k⟩:=hv 0 u rfl;refine⟨y,?_,?_⟩
  ·have:w.cell? ⟨b,o,none⟩=some y:=by rw[uc hb];simpa using a
   simp[Instr.loadAt,loadVar,Instr.sureAddr,LD h q,i,run_load,this]
  ·rw[Wo (by simp[i])];exact⟨u,rfl,k⟩
section
section
variable  {δ β : Type}
def ki (D:St δ β)(ti:TI):Sl δ β→Option (Sl δ β)
 | .pb h o=>(boxRange D h o ti.size).bind fun cs =>
  if ti.sh.agg then some (.agg (cs.mapIdx fun j u=>u.kd (.lent h (o+j) true)))else
  match cs with
  |[.s .own _ _ rows]=>some (.al h o [] 0 rows.length)
  |[u]=>some (.one u)
  |_=>none
 | .pe h c st i o=>(rowRange D h c st i o ti.size).bind fun cs =>
  if ti.sh.agg then some (.agg (cs.map (T.view (.lent h c false))))else
  match cs with
  |[.s .own _ _ rows]=>some (.al h c (st++[(i,o)]) 0 rows.length)
  |[u]=>some (.one (u.view (.lent h c false)))
  |_=>none
 | .im k _ ts o =>
  if o+ti.size≤ts.length then
   if ti.sh.agg then some (.agg (((ts.drop o).take ti.size).map (T.view k.unr)))else
   match(ts.drop o).take ti.size with
   |[u]=>some (.one (u.view k.unr))
   |_=>none
  else none
 |_=>none
end
theorem ua {k:Kd}{t:DT}{y:Value}:VT (t.view k) y↔VT t y:=by cases t<;>exact .rfl
theorem m6 {w:World}{k:Kd}{t:DT}(h:Holds w t):Holds w (t.view k):=by
 cases t with
 |v x=>exact h
 |any=>exact h
 |s k' d z r=>exact vd h
theorem Te (k:Kd)(t:DT):bl (t.view k)=bl t:=by
 cases t with
 |v x=>rfl
 |any=>rfl
 |s k' d z r=>simp only[T.view,cJ]
theorem tP {k:Kd}(a:k ≠ .own)(t:DT):(t.view k).isOwn=false:=by
 cases t with
 |v x=>rfl
 |any=>rfl
 |s k' d z r=>cases k<;>simp_all[T.view,T.isOwn]
theorem E7 {cx:Cx}{D:DSt}{t:DT}(h:∀x∈bl t,cx.far x):bK cx D (t.view .far):=by
 cases t with
 |v x=>trivial
 |any=>trivial
 |s k' d z r=>exact fun x a=>h x (by simp only[cJ]at a ⊢;exact a)
theorem vf {cx:Cx}{D:DSt}{b c:Nat}{a t:DT}(hc:av D b c=some a)(f:a.isOwn=true)(h:∀x∈bl t,x∈bl a):bK cx D (t.view (.lent b c false)):=by
 cases t with
 |v x=>trivial
 |any=>trivial
 |s k' d z r=>exact⟨a,hc,f,fun x e=>h x (by simp only[cJ]at e ⊢;exact e),fun h=>by cases h⟩
theorem LK {cx:Cx}{D:DSt}{k:Kd}{b:Nat}{ts:List DT}(h:pD cx D k b ts){t:DT}(a:t∈ts):bK cx D (t.view k.unr):=by
 cases k with
 |own=>exact h.elim
 |far=>exact E7 (h.2 t a)
 |lent g c i =>obtain⟨j,d,e,l,f⟩:=h;exact vf d e (f t a)
theorem xH {ts:List DT}{cs:List Value}(f:Nat→DT→DT)(hf:∀i t y,VT t y→VT (f i t) y)(h:VCells ts cs):VCells (ts.mapIdx f) cs:=by refine⟨by simpa using h.1,fun i t y hi a=>?_⟩;rw[XV,We]at hi;obtain⟨t',hi,rfl⟩:=hi;exact hf _ _ _ (h.2 i t' y hi a)
theorem AY {α γ:Type}(f:α→γ)(l:List α):l.mapIdx (fun _ x=>f x)=l.map f:=by apply XC;intro i;simp
theorem Tells.agg {cx:Cx}{D:DSt}{w:World}{ts:List DT}{ys:Array Value}(hv:VCells ts ys.toList)(hh:∀t∈ts,Holds w t)(d:∀t∈ts,bK cx D t)(b:∀t∈ts,t.isOwn=false):
  Tells cx D w (.agg ts) (.agg ys):=
 ⟨⟨ys,rfl,hv⟩,⟨hh,(fun t a c=>by rw[b t a]at c;cases c),trivial⟩,d,by simp only[ownBl,WB];exact fun t a=>fz (b t a)⟩
theorem Tells.one {cx:Cx}{D:DSt}{w:World}{t:DT}{y:Value}(hv:VT t y)(hh:Holds w t)(d:bK cx D t)(b:t.isOwn=false):Tells cx D w (.one t) y :=
 ⟨hv,⟨fun u a=>by simp[aj]at a;subst a;exact hh,(fun u a c=>by simp[rootsO]at a;subst a;rw[b]at c;cases c),trivial⟩,
  fun u a=>by simp[aj]at a;subst a;exact d,fz b⟩
theorem GW:∀(st:List (Nat×Nat)){t:DT}{k:Kd}{d:Dec}{z:Nat}{rows:List (List DT)}{i c:Nat}{row:List DT}{u:DT},
  getN t st=some (.s k d z rows)→rows[i]?=some row→row[c]?=some u→getN t (st++[(i,c)])=some u
 |[],t,k,d,z,rows,i,c,row,u,h,hi,a=>by cases h;simp[getN,hi,a]
 |(e,f)::st,t,k,d,z,rows,i,c,row,u,h,hi,a=>by
  cases t with
  |v x=>simp[getN]at h
  |any=>simp[getN]at h
  |s k' g j b =>simp only[getN,Ym,Wb]at h ⊢;obtain⟨v,hv,h⟩:=h;exact⟨v,hv,GW st h hi a⟩
variable  {P : Program}{tab : Tab}
theorem Tells.load {cx:Cx}{D:DSt}{Pd:List (DT×Value)}{tm:Array Value}{w:World}(I:Inv cx D Pd tm w){t:TypeId}{ti:TI}(h:m4 P t=some ti)(J:ti.sh ≠ .other)
  {p s:DSl} {yp:Value} (O:Tells cx D w p yp) (e:ki D ti p=some s):∃y,(Instr.loadAt t yp).run P w = .ok y w∧Tells cx D w s y:=by
 unfold ki at e;split at e
 ·rename_i K o;obtain⟨b,ts,hb,M⟩:=O.val;simp only[Wb]at e;obtain⟨cs,hr,e⟩:=e;obtain⟨b',ts',S,a,A,R,U⟩:=I.boxRange hr;rw[hb]at S;cases S;have l:∀(j:Nat)(u:DT),cs[j]?=some u→bK cx D (u.kd (.lent K (o+j) true)):=by
   intro j u hj;have B:j<ti.size:=by
    rcases Wl j cs.length with g|g
    ·omega
    ·rw[Wh g]at hj;cases hj
   rw[R j B]at hj;have hk:=I.kind _ (Wd hb);have hc:av D K (o+j)=some u:=by simp[av,hb,aZ,hj]
   have V:bK cx D u:=hk u (Wd hj);cases u with
   |v x=>trivial
   |any=>trivial
   |s k d z r =>
    cases k with
    |own=>exact⟨_,hc,rfl,fun x hx=>(by simp only[cJ]at hx ⊢;exact hx),fun _=>⟨_,_,rfl,rfl⟩⟩
    |far=>exact V
    |lent h c fl=>exact V
  split at e
  ·rename_i F;cases e;obtain⟨y,G,n⟩:=Cells.load h J A a (fun hf=>by rw[F]at hf;cases hf);rw[Wa F]at n;obtain⟨ys,rfl,n⟩:=n;refine⟨_,by rw[M];exact G,.agg (xH _ (fun _ _ _=>Oo.2) n) ?_ ?_ ?_⟩
   ·intro t m;simp only[Xm]at m;obtain⟨i,hi,rfl⟩:=m;exact I8 (A.holds _ (Xs hi))
   ·intro t m;simp only[Xm]at m;obtain⟨i,hi,rfl⟩:=m;exact l i _ (Wg hi)
   ·intro t m;simp only[Xm]at m;obtain⟨i,hi,rfl⟩:=m;exact sV _ _ _ _
  ·rename_i F;have Q:cs.length=1:=by split at e<;>first|rfl|cases e
   obtain⟨y,G,n⟩:=Cells.load h J A a (fun _=>Q);rw[Wo F]at n;obtain⟨u,rfl,n⟩:=n;refine⟨y,by rw[M];exact G,?_⟩;have hu:ts[o]?=some u:=by have:=R 0 (by simp at a;omega);simpa using this.symm
   have hm:=I.mem _ (Wd hb);split at e
   ·rename_i d z rows q;cases q;cases e;refine⟨⟨d,z,rows.length,_,⟨.s .own d z rows,by simp[av,hb,aZ,hu],rfl,.own,rows,rfl,rfl⟩,by omega,n,?_,fun _=>Dec.addr_none (hm.2.1 (.s .own d z rows) (Wd hu) rfl).sp⟩,
     ⟨fun t m=>by simp[aj]at m,fun t m=>by simp[rootsO]at m,trivial⟩,fun t m=>by simp[aj]at m,rfl⟩
    intro hc;have J:=hm.2.1 (.s .own d z rows) (Wd hu) rfl;have hs:=J.sp;cases J with
    |nil d z h W Z0=>omega
    |s d z rows K=>simp[Dec.addr,K,hs]
   ·rename_i X q;cases q;cases e;have Z1:u.isOwn=false:=by
     cases u with
     |v x=>rfl
     |any=>rfl
     |s k d z r =>
      cases k with
      |own=>exact absurd rfl (X d z r)
      |_=>rfl
    exact .one n (A.holds _ (by simp)) (I.kind _ (Wd hb) u (Wd hu)) Z1
   ·cases e
 ·rename_i K c st i o;obtain⟨d',z',n',hn,Z6,M⟩:=O.val;simp only[Wb]at e;obtain⟨cs,hr,e⟩:=e;obtain⟨t₀,k,d,z,rows,row,hc,Y,Z7,Z2,L,H,a,U,A,R⟩:=I.rowRange hr;have Z3:d=d'∧z=z':=by obtain⟨t1,G,n,k1,C,h3,h4⟩:=hn;rw[hc]at G;cases G;rw[L]at h3;cases h3;exact⟨rfl,rfl⟩
  obtain⟨rfl,rfl⟩:=Z3;have Z4:∀(j:Nat)(u:DT),cs[j]?=some u→∀x∈bl u,x∈bl t₀:=by
   intro j u hj x hx;have B:j<ti.size:=by
    rcases Wl j cs.length with g|g
    ·omega
    ·rw[Wh g]at hj;cases hj
   rw[R j B]at hj;exact wM st L x (lv H hj hx)
  have N:∀(j:Nat)(u:DT),cs[j]?=some u→OwnT w u:=by
   intro j u hj;have B:j<ti.size:=by
    rcases Wl j cs.length with g|g
    ·omega
    ·rw[Wh g]at hj;cases hj
   rw[R j B]at hj;have:=OwnT.getN st Z2 L;cases this with
   |nil=>simp at H
   |s _ _ _ h hsp c' e' lo Z8 hb hcap hroom hf hh=>exact hh i row _ u H hj
  have l:∀(j:Nat)(u:DT),cs[j]?=some u→bK cx D (u.view (.lent K c false)):=fun j u hj=>vf hc Y (Z4 j u hj)
  split at e
  ·rename_i F;cases e;obtain⟨y,G,n⟩:=Cells.load h J A a (fun hf=>by rw[F]at hf;cases hf);rw[Wa F]at n;obtain⟨ys,rfl,n⟩:=n;refine⟨_,by rw[M];exact G,.agg ?_ ?_ ?_ ?_⟩
   ·have:=xH (fun _ u=>u.view (.lent K c false)) (fun _ _ _=>ua.2) n
    rwa [AY]at this
   ·intro t m;obtain⟨u,hu,rfl⟩:=Wx.1 m;exact m6 (A.holds _ hu)
   ·intro t m;obtain⟨u,hu,rfl⟩:=Wx.1 m;obtain⟨j,hj⟩:=Wm hu;exact l j u hj
   ·intro t m;obtain⟨u,hu,rfl⟩:=Wx.1 m;exact tP (by simp) _
  ·rename_i F;have Q:cs.length=1:=by split at e<;>first|rfl|cases e
   obtain⟨y,G,n⟩:=Cells.load h J A a (fun _=>Q);rw[Wo F]at n;obtain⟨u,rfl,n⟩:=n;refine⟨y,by rw[M];exact G,?_⟩;have hu:row[o]?=some u:=by have:=R 0 (by simp at a;omega);simpa using this.symm
   split at e
   ·rename_i d1 z1 C q;cases q;cases e;refine⟨⟨d1,z1,C.length,_,⟨t₀,hc,Y,.own,C,GW st L H hu,rfl⟩,by omega,n,?_,fun _=>Dec.addr_none (N 0 _ rfl).sp⟩,
     ⟨fun t m=>by simp[aj]at m,fun t m=>by simp[rootsO]at m,trivial⟩,fun t m=>by simp[aj]at m,rfl⟩
    intro hcap;have J:=N 0 _ rfl;have hs:=J.sp;cases J with
    |nil d z h W Z0=>omega
    |s d z rows K=>simp[Dec.addr,K,hs]
   ·rename_i X q;cases q;cases e;exact .one (ua.2 n) (m6 (A.holds _ (by simp))) (l 0 _ rfl) (tP (by simp) _)
   ·cases e
 ·rename_i k b ts o;have M:yp = .pointer (some ⟨b.1,b.2+o,none⟩):=O.val;split at e
  ·rename_i U;have Z:k.unr ≠ .own:=by
    intro hk;cases k with
    |own=>exact O.kind
    |_=>cases hk
   have A:Cells w b.1 (b.2+o) ((ts.drop o).take ti.size):=by
    obtain⟨c',e',f,hb,hv⟩:=O.mem.2.2;refine⟨⟨c',e',f,hb,fun j t hj=>?_⟩,fun t m=>O.mem.1 t (Xw (XK m))⟩;have B:j<ti.size:=by
     rcases Wl j ti.size with g|g
     ·exact g
     ·rw[Xl,Wo (by omega)]at hj;cases hj
    rw[Xl,Wa B,Xa]at hj;have:=hv _ t hj;rw[←Xz]at this;exact this
   have a:((ts.drop o).take ti.size).length=ti.size:=by simp;omega
   have l:∀u∈(ts.drop o).take ti.size,bK cx D (u.view k.unr):=fun u hu =>LK O.kind (Xw (XK hu))
   split at e
   ·rename_i F;cases e;obtain⟨y,G,n⟩:=Cells.load h J A a (fun hf=>by rw[F]at hf;cases hf);rw[Wa F]at n;obtain⟨ys,rfl,n⟩:=n;refine⟨_,by rw[M];exact G,.agg ?_ ?_ ?_ ?_⟩
    ·have:=xH (fun _ u=>u.view k.unr) (fun _ _ _=>ua.2) n
     rwa [AY]at this
    ·intro t m;obtain⟨u,hu,rfl⟩:=Wx.1 m;exact m6 (A.holds _ hu)
    ·intro t m;obtain⟨u,hu,rfl⟩:=Wx.1 m;exact l u hu
    ·intro t m;obtain⟨u,hu,rfl⟩:=Wx.1 m;exact tP Z _
   ·rename_i F;split at e
    ·rename_i u q;cases e;rw[q]at A a l;obtain⟨y,G,n⟩:=Cells.load h J A a (fun _=>rfl);rw[Wo F]at n;obtain⟨u',Z5,n⟩:=n;cases Z5;exact⟨y,by rw[M];exact G,.one (ua.2 n) (m6 (A.holds _ (by simp))) (l _ (by simp)) (tP Z _)⟩
    ·cases e
  ·cases e
 ·cases e
end
section
structure Mk (δ β:Type) where
 nil:δ
 win:δ→Nat→Nat→δ
 at_:δ→Nat→Nat→β
 ptr:β→δ
def mkD:Mk Dec (Nat×Nat) where
 nil:=nilD
 win d l z:={ d with o:=if d.cap=l then d.o else d.o+l*z,cap:=d.cap-l }
 at_ d i z:=(d.b,d.o+i*z)
 ptr b:=⟨b.1,b.2,1,false,none⟩
def mkU:Mk Unit Unit where
 nil:=()
 win _ _ _:=()
 at_ _ _ _:=()
 ptr _:=()
section
variable  {δ β : Type}
def intOfSl:Sl δ β→Option Int| .one (.v (.int _ n))=>some n|_=>none
def qz (D:St δ β)(h c:Nat)(st:List (Nat×Nat)):Option Nat :=
 match cX D h c st with
 |some (.s _ _ z _)=>some z
 |_=>none
def mb (M:Mk δ β)(D:St δ β)(tab:Tab)(t:Nat)(x:Sl δ β)(lo hi:Option Int):Option (Sl δ β):=
 match x with
 | .one (.v (.string s))=>
  if((tab.ti t).map (·.sh))=some .str then
   if 0≤lo.getD 0∧lo.getD 0≤hi.getD s.size∧hi.getD s.size≤(s.size:Int)then some (.one (.v (.string (s.extract (lo.getD 0).toNat (hi.getD s.size).toNat))))else none
  else none
 | .one (.s k d z rows)=>
  if k = .own then none else
  match tab.ti t with
  |some ⟨_,_,_,.slice e⟩=>
   if((tab.ti e).map (·.size))=some z then
    if 0≤lo.getD 0∧lo.getD 0≤hi.getD rows.length∧hi.getD rows.length≤(rows.length:Int)then
     some (.one (.s k.unr (M.win d (lo.getD 0).toNat z) z ((rows.drop (lo.getD 0).toNat).take ((hi.getD rows.length).toNat-(lo.getD 0).toNat))))else none
   else none
  |_=>none
 | .al h c st l len =>
  match tab.ti t with
  |some ⟨_,_,_,.slice e⟩=>
   if((tab.ti e).map (·.size))=qz D h c st then
    if 0≤lo.getD 0∧lo.getD 0≤hi.getD len∧hi.getD len≤(len:Int)then
     some (.al h c st (l+(lo.getD 0).toNat) ((hi.getD len).toNat-(lo.getD 0).toNat))else none
   else none
  |_=>none
 |_=>none
end
abbrev bV (lo:Option (IntKind×Int)):Option Value:=lo.map fun p=>Value.int p.1 p.2
theorem yv {P:Program}(w:World)(b:Bool)(len cap:Nat)(lo hi:Option (IntKind×Int))(hc:len≤cap)
  (h:0≤(lo.map Prod.snd).getD 0∧(lo.map Prod.snd).getD 0≤(hi.map Prod.snd).getD (len:Int)∧(hi.map Prod.snd).getD (len:Int)≤(cap:Int)):
  (Instr.sliceBounds b len cap (bV lo) (bV hi) none).run P w = .ok (((lo.map Prod.snd).getD 0).toNat,((hi.map Prod.snd).getD (len:Int)).toNat,cap) w:=by
 obtain⟨d,a,c⟩:=h;cases lo with
 |none =>
  cases hi with
  |none=>simp[Instr.sliceBounds]
  |some p =>simp at a c;simp[Instr.sliceBounds,run_sliceBound w p.1 p.2 cap _ a c]
 |some q =>
  cases hi with
  |none =>simp at d a c;simp[Instr.sliceBounds,run_sliceBound w q.1 q.2 len _ d a]
  |some p =>simp at d a c;simp[Instr.sliceBounds,run_sliceBound w p.1 p.2 cap _ (by omega) c,run_sliceBound w q.1 q.2 p.2.toNat _ d (by omega)]
theorem TL (d:Dec)(z l:Nat)(hs:d.sp=none∨l=0):
  (if d.cap=l then d.addr else d.addr.map (·.add (l*z)))=(mkD.win d l z).addr:=by
 rcases hs with hs|hs
 ·rw[Dec.addr_none hs,Dec.addr_none (d:=mkD.win d l z) (by simpa[mkD]using hs)];simp only[mkD];by_cases a:d.nil=true
  ·simp[a]
  ·simp only[a];by_cases hc:d.cap=l
   ·simp[hc]
   ·simp only[hc,W2,WC,Wc,WO];unfold Addr.add;split
    ·rename_i b;simp[b]
    ·rfl
 ·subst hs;have b:(mkD.win d 0 z).addr=d.addr:=by unfold Dec.addr mkD;simp
  rw[b];cases d.addr<;>simp[Addr.add]
theorem S9 {tab:Tab}{t:Nat}{s:Sh}(h:((tab.ti t).map (·.sh))=some s):∃ti,tab.ti t=some ti∧ti.sh=s:=by
 cases e:tab.ti t with
 |none=>rw[e]at h;cases h
 |some ti=>rw[e]at h;cases h;exact⟨ti,rfl,rfl⟩
theorem vL {tab:Tab}{t:Nat}{n:Nat}(h:((tab.ti t).map (·.size))=some n):∃ti,tab.ti t=some ti∧ti.size=n:=by
 cases e:tab.ti t with
 |none=>rw[e]at h;cases h
 |some ti=>rw[e]at h;cases h;exact⟨ti,rfl,rfl⟩
theorem Holds.cap {w:World}{k:Kd}{d:Dec}{z:Nat}{rows:List (List DT)}(h:Holds w (.s k d z rows)):rows.length≤d.cap:=by
 cases h with
 |e=>simp
 |s _ _ _ _ h hsp c e f hb hcap hz hv hh=>exact hcap
theorem Holds.win {w:World}{k:Kd}{d:Dec}{z:Nat}{rows:List (List DT)}(h:Holds w (.s k d z rows))(l n:Nat)(r:l+n≤rows.length):
  Holds w (.s k (mkD.win d l z) z ((rows.drop l).take n)):=by
 cases h with
 |e=>simp;exact .e _ _ _
 |s _ _ _ _ h hsp c e f hb hcap hz hv hh =>
  have a:∀(i:Nat)(row:List DT),((rows.drop l).take n)[i]?=some row→rows[l+i]?=some row∧i<n:=by
   intro i row hi;rw[Xl]at hi;split at hi
   ·rw[Xa]at hi;exact⟨hi, ‹_›⟩
   ·cases hi
  refine .s _ _ _ _ (by simpa[mkD]using h) (by simpa[mkD]using hsp) c e f (by simpa[mkD]using hb) (by simp[mkD];omega) ?_ ?_ ?_
  ·intro i row hi;exact hz _ row (a i row hi).1
  ·intro i row j t hi b;obtain⟨g,o⟩:=a i row hi;obtain⟨y,p,q⟩:=hv _ row j t g b;refine⟨y,?_,q⟩;have m:¬d.cap=l:=by omega
   simp only[mkD,m,W2];rw[←p];congr 1;rw[XA];omega
  ·intro i row j t hi b;exact hh _ row j t (a i row hi).1 b
theorem Jh {k:Kd}{d:Dec}{z:Nat}{rows:List (List DT)}{l n:Nat}{x:Nat}(h:x∈bl (.s k (mkD.win d l z) z ((rows.drop l).take n))):x∈bl (.s k d z rows):=by
 rw[cJ]at h ⊢;simp only[WF,Wq]at h ⊢;rcases h with h|⟨row,a,h⟩
 ·exact .inl h
 ·exact .inr ⟨row,Xw (XK a),h⟩
variable  {P : Program}{tab : Tab}
theorem Inv.node {cx:Cx}{D:DSt}{j:List (DT×Value)}{tm:Array Value}{w:World}(I:Inv cx D j tm w){h c:Nat}{st:List (Nat×Nat)}{d:Dec}{z n:Nat}(l:e8 D h c st d z n):
  ∃t k rows,av D h c=some t∧t.isOwn=true∧getN t st=some (.s k d z rows)∧rows.length=n∧Holds w (.s k d z rows)∧OwnT w (.s k d z rows):=by
 obtain⟨t,f,g,k,rows,a,m⟩:=l;obtain⟨s,hs,b,o,e,_⟩:=ce f;have i:=I.mem s b;exact⟨t,k,rows,f,g,a,m,Holds.getN st (i.1 t o) a,OwnT.getN st (i.2.1 t e g) a⟩
theorem Tells.slice (ok:bz P tab){cx:Cx}{D:DSt}{V:List (DT×Value)}{tm:Array Value}{w:World}(I:Inv cx D V tm w){t:TypeId}{x s:DSl}{B:Value}(i:Tells cx D w x B)
  (lo hi:Option (IntKind×Int)) (e:mb mkD D tab t x (lo.map Prod.snd) (hi.map Prod.snd)=some s):
  ∃y,(Instr.sliceAt t B (bV lo) (bV hi) none).run P w = .ok y w∧Tells cx D w s y:=by
 unfold mb at e;split at e
 ·rename_i str;split at e
  ·rename_i hs;obtain⟨ti,f,C⟩:=S9 hs;have g:=xu (Tab.ok ok f) C;split at e
   ·rename_i hb;cases e;have r:B = .string str:=i.val.1;subst r;refine⟨_,?_,.one_v _ rfl⟩;rw[run_sliceAt_string w t _ _ _ _ g];simp[Instr.slice,run_underlying g,yv (P:=P) w false str.size str.size lo hi (WU _) hb]
   ·cases e
  ·cases e
 ·rename_i k d z rows;split at e
  ·cases e
  rename_i F;split at e
  ·rename_i sz G W H f;have g:=gk (Tab.ok ok f) rfl;have b:P.elem t=H:=by simp[Program.elem,g]
   split at e
   ·rename_i hz;obtain⟨X,j,m⟩:=vL hz;split at e
    ·rename_i hb;cases e;have J:=i.mem.1 (.s k d z rows) (by simp[aj]);have hcap:=J.cap;have r:B = .slice d.addr rows.length d.cap:=i.val;have Y:(T.s k d z rows).isOwn=false:=by cases k<;>first|rfl|exact absurd rfl F
     have o:=yv (P:=P) w true rows.length d.cap lo hi hcap ⟨hb.1,hb.2.1,Int.le_trans hb.2.2 (by omega)⟩;have p:=md (Tab.ok ok j) w;obtain⟨Z,q,u⟩:=hb;refine⟨_,?_,.one (y := .slice (mkD.win d ((lo.map Prod.snd).getD 0).toNat z).addr
      ((rows.drop ((lo.map Prod.snd).getD 0).toNat).take (((hi.map Prod.snd).getD (rows.length:Int)).toNat-((lo.map Prod.snd).getD 0).toNat)).length (mkD.win d ((lo.map Prod.snd).getD 0).toNat z).cap) rfl (vd (J.win _ _ ?_)) ?_ ?_⟩
     ·rw[run_sliceAt_slice w t _ _ _ _ (by rw[b];exact g),r,run_slice_any w t _ _ _ (by rw[b];exact g),o];simp only[Result.andThen_ok,b,p,m];congr 1;unfold sliced;have:=TL d z ((lo.map Prod.snd).getD 0).toNat (by
       by_cases S:rows=[]
       ·subst S;have K:=q;have L:=u;simp only[Yn]at K L;right;omega
       ·exact .inl (J.sp S))
      rw[this];congr 1;simp only[List.length_take,List.length_drop];omega
     ·omega
     ·have v:=i.kind (.s k d z rows) (by simp[aj]);cases k with
      |own=>exact absurd rfl F
      |far=>exact fun x i=>v x (Jh i)
      |lent h' c fl =>obtain⟨t,q,u,M⟩:=v;exact⟨t,q,u,fun x i=>M.1 x (Jh i),fun h=>by cases h⟩
     ·cases k<;>first|rfl|exact absurd rfl F
    ·cases e
   ·cases e
  ·cases e
 ·rename_i h c st l len;split at e
  ·rename_i sz G W H f;have g:=gk (Tab.ok ok f) rfl;have b:P.elem t=H:=by simp[Program.elem,g]
   obtain⟨d,z,n,a,N,Z0,r,ha,O⟩:=i.val;have Q:qz D h c st=some z:=by obtain⟨t,q,u,k,rows,M,U⟩:=N;simp[qz,cX,q,M]
   rw[Q]at e;split at e
   ·rename_i hz;obtain⟨X,j,m⟩:=vL hz;split at e
    ·rename_i hb;cases e;have p:=md (Tab.ok ok j) w;have hcap:n≤d.cap:=by obtain⟨_,_,_,_,_,_,U,h5,_⟩:=I.node N;rw[←U];exact h5.cap
     have o:=yv (P:=P) w true len (d.cap-l) lo hi (by omega) ⟨hb.1,hb.2.1,Int.le_trans hb.2.2 (by omega)⟩;obtain⟨Z,q,u⟩:=hb;refine⟨_,?_,⟨⟨d,z,n,(if d.cap-l=((lo.map Prod.snd).getD 0).toNat then a else a.map (·.add (((lo.map Prod.snd).getD 0).toNat*z))),N,?_,rfl,?_,?_⟩,⟨fun t A=>by simp[aj]at A,fun t A=>by simp[rootsO]at A,trivial⟩,fun t A=>by simp[aj]at A,rfl⟩⟩
     ·rw[run_sliceAt_slice w t _ _ _ _ (by rw[b];exact g),r,run_slice_any w t _ _ _ (by rw[b];exact g),o];simp only[Result.andThen_ok,b,p,m,sliced];congr 2;omega
     ·omega
     ·intro hc;rw[Wo (by omega),ha (by omega)];simp only[Wc,WO];unfold Addr.add;split
      ·rename_i Z1;simp only[Addr.mk.injEq,Yf,true_and];rw[XA];omega
      ·simp only[Addr.mk.injEq,Yf,true_and];rw[XA];omega
     ·intro Z2;have hl:l=0:=by omega
      have R:((lo.map Prod.snd).getD 0).toNat=0:=by omega
      rw[R,O hl];split
      ·rfl
      ·split<;>simp[Addr.add]
    ·cases e
   ·cases e
  ·cases e
 ·cases e
end
section
section
variable  {δ β : Type}
def iP (s:Y9)(i:Int):Int:=((s[i.toNat]?.map fun b=>(b.toNat:Int)).getD 0)
def i7 (M:Mk δ β)(D:St δ β)(tab:Tab)(t:Nat)(x:Sl δ β)(i:Int):Option (Sl δ β):=
 match tab.ti t with
 |some ⟨_,_,_,.slice e⟩=>
  match x with
  | .one (.s k d z rows)=>
   if k = .own then none else
   if((tab.ti e).map (·.size))=some z then
    if 0≤i then(rows[i.toNat]?).map fun row=>.im k (M.at_ d i.toNat z) row 0 else none
   else none
  | .al h c st lo len =>
   if((tab.ti e).map (·.size))=qz D h c st then
    if 0≤i∧i<(len:Int)then some (.pe h c st (lo+i.toNat) 0)else none
   else none
  |_=>none
 |_=>none
def lS (tab:Tab)(t:Nat)(x:Sl δ β)(f:Nat):Option (Sl δ β):=
 match tab.ti t with
 |some ⟨_,_,_,.struct offs⟩=>
  (offs[f]?).bind fun o =>
  match x with
  | .pb h off=>some (.pb h (off+o))
  | .pe h c st i off=>some (.pe h c st i (off+o))
  | .im k b ts off=>some (.im k b ts (off+o))
  |_=>none
 |_=>none
def yl (tab:Tab)(t:Nat)(x:Sl δ β):Option Int :=
 match tab.ti t with
 |some ⟨_,_,_,.slice _⟩=>
  match x with
  | .one (.s k _ _ rows)=>if k = .own then none else some rows.length
  | .al _ _ _ _ len=>some len
  |_=>none
 |some ⟨_,_,_,.str⟩=>
  match x with
  | .one (.v (.string s))=>some s.size
  |_=>none
 |_=>none
def EC:Sl δ β→Bool| .pb _ _=>true| .pe _ _ _ _ _=>true| .im _ _ _ _=>true|_=>false
def jG (nil:δ)(D:St δ β):Option Operand→Option (Option Int)
 |none=>some none
 |some x=>match opd nil D x with
  |some (.one (.v (.int _ n)))=>some (some n)
  |_=>none
def DS (M:Mk δ β)(tab:Tab)(D:St δ β)(c:Call):Option (Sl δ β):=
 match c.callee,c.args.toList,c.argTypes.toList with
 | .builtin .len,[x],[t]=>(opd M.nil D x).bind fun s=>(yl tab t s).map fun n=>.one (.v (.int .i64 n))
 | .builtin .max,[x,y],_ =>
  match opd M.nil D x,opd M.nil D y with
  |some (.one (.v (.int k a))),some (.one (.v (.int _ b)))=>some (.one (.v (.int k (if b>a then b else a))))
  |_,_=>none
 | .builtin .min,[x,y],_ =>
  match opd M.nil D x,opd M.nil D y with
  |some (.one (.v (.int k a))),some (.one (.v (.int _ b)))=>some (.one (.v (.int k (if b<a then b else a))))
  |_,_=>none
 |_,_,_=>none
def b9 (M:Mk δ β)(tab:Tab)(D:St δ β)(op:Op):Option (Sl δ β):=
 match op with
 | .move x=>opd M.nil D x
 | .assign x=>opd M.nil D x
 | .pick c a b =>
  match opd M.nil D c with
  |some (.one (.v (.bool true)))=>opd M.nil D a
  |some (.one (.v (.bool false)))=>opd M.nil D b
  |_=>none
 | .nilCheck x=>(opd M.nil D x).bind fun s=>if EC s then some s else none
 | .binOp op t x y _ =>
  match opd M.nil D x,opd M.nil D y with
  |some (.one (.v a)),some (.one (.v b))=>(zO tab op t a b).map fun z=>.one (.v z)
  |some (.agg us),some (.agg e)=>(eqS tab op t us e).map fun z=>.one (.v z)
  |_,_=>none
 | .unOp op _ x =>
  match opd M.nil D x with
  |some (.one (.v (.bool b)))=>(match op with| .not=>some (.one (.v (.bool !b)))|_=>none)
  |some (.one (.v (.int k n)))=>(match op with| .neg=>some (.one (.v (.int k (k.wrap (0-n)))))|_=>none)
  |_=>none
 | .convert d dst x =>
  match opd M.nil D x,tab.ti d,tab.ti dst with
  |some (.one (.v (.int _ n))),some _,some ⟨_,_,_,.int k⟩=>some (.one (.v (.int k (k.wrap n))))
  |_,_,_=>none
 | .load t x =>
  match opd M.nil D x,tab.ti t with
  |some p,some ti=>if ti.sh = .other then none else ki D ti p
  |_,_=>none
 | .fieldAddr t x f=>(opd M.nil D x).bind fun p=>lS tab t p f
 | .indexAddr t x i =>
  match opd M.nil D x,opd M.nil D i with
  |some p,some (.one (.v (.int _ n)))=>i7 M D tab t p n
  |_,_=>none
 | .index t x i =>
  match opd M.nil D x,opd M.nil D i with
  |some (.one (.v (.string s))),some (.one (.v (.int _ n)))=>
   if((tab.ti t).map (·.sh))=some .str then
    if 0≤n∧n<(s.size:Int)then some (.one (.v (.int .u8 (iP s n))))else none
   else none
  |some (.clo (.arr offs) hs),some (.one (.v (.int _ n)))=>
   if 0≤n∧tab.ars.lookup t=some hs.length∧offs.length=hs.length then
    match hs[n.toNat]?,offs[n.toNat]? with
    |some h,some o=>some (.pb h o)
    |_,_=>none
   else none
  |_,_=>none
 | .slice t x lo hi none =>
  match opd M.nil D x,jG M.nil D lo,jG M.nil D hi with
  |some s,some l,some h=>mb M D tab t s l h
  |_,_,_=>none
 | .call c=>DS M tab D c
 |_=>none
end
variable  {P : Program}{tab : Tab}
theorem Tells.indexAddr (ok:bz P tab){cx:Cx}{D:DSt}{V:List (DT×Value)}{tm:Array Value}{w:World}(I:Inv cx D V tm w){t:TypeId}{x s:DSl}{K:Value}(H:Tells cx D w x K)
  {k:IntKind} {i:Int} (e:i7 mkD D tab t x i=some s):∃y,(Instr.indexAt t K (.int k i)).run P w = .ok y w∧Tells cx D w s y:=by
 unfold i7 at e;split at e
 ·rename_i sz W ze X L;have M:=gk (Tab.ok ok L) rfl;have p:P.elem t=X:=by simp[Program.elem,M]
  split at e
  ·rename_i kd d z rows;split at e
   ·cases e
   rename_i Y;split at e
   ·rename_i hz;obtain⟨Z,q,r⟩:=vL hz;split at e
    ·rename_i hi;rw[We]at e;obtain⟨row,l,rfl⟩:=e;have v:=md (Tab.ok ok q) w;have F:K = .slice d.addr rows.length d.cap:=H.val;have hH:=H.mem.1 (.s kd d z rows) (by simp[aj]);have Z0:i.toNat<rows.length:=by
      rcases Wl i.toNat rows.length with g|g
      ·exact g
      ·rw[Wh g]at l;cases l
     cases hH with
     |e=>simp at l
     |s _ _ _ _ h hsp c e f hb hcap Z1 hv hh =>
      rw[Dec.addr_none hsp,h]at F;simp only[WC,W2]at F;refine⟨.pointer (some ⟨d.b,d.o+i.toNat*z,none⟩),?_,⟨rfl,⟨?_,?_,?_⟩,?_,rfl⟩⟩
      ·rw[F,run_indexAt_slice w t _ _ _ _ _ (by rw[p];exact M),Wa ⟨hi,by omega⟩,p,v];simp only[Result.andThen_ok,r];unfold Addr.add;split
       ·rename_i N;simp[N]
       ·rfl
      ·intro u m;obtain⟨j,A⟩:=Wm m;exact hh _ row j u l A
      ·intro u m ho;simp[rootsO]at m
      ·exact⟨c,e,f,hb,fun j u A=>hv _ row j u l A⟩
      ·have B:=H.kind (.s kd d z rows) (by simp[aj]);cases kd with
       |own=>exact absurd rfl Y
       |far=>exact⟨B d.b (lZ h),fun u m x C=>by obtain⟨j,A⟩:=Wm m;exact B x (lv l A C)⟩
       |lent h' c' fl =>obtain⟨t,O,S,J,Z2⟩:=B;exact⟨t,O,S,J _ (lZ h),fun u m x C=>by obtain⟨j,A⟩:=Wm m;exact J x (lv l A C)⟩
    ·cases e
   ·cases e
  ·rename_i h c st lo len;obtain⟨d,z,n,a,Q,Z3,F,ha,Z4⟩:=H.val;have R:qz D h c st=some z:=by obtain⟨t,O,S,k,rows,J,U⟩:=Q;simp[qz,cX,O,J]
   rw[R]at e;split at e
   ·rename_i hz;obtain⟨Z,q,r⟩:=vL hz;split at e
    ·rename_i hi;cases e;have v:=md (Tab.ok ok q) w;have hcap:n≤d.cap:=by obtain⟨_,_,_,_,_,_,U,h5,_⟩:=I.node Q;rw[←U];exact h5.cap
     rw[ha (by omega)]at F;refine⟨.pointer (some ⟨d.b,d.o+(lo+i.toNat)*z,none⟩),?_,⟨⟨d,z,n,Q,by omega,rfl⟩,⟨fun t G=>by simp[aj]at G,fun t G=>by simp[rootsO]at G,trivial⟩,fun t G=>by simp[aj]at G,rfl⟩⟩;rw[F,run_indexAt_slice w t _ _ _ _ _ (by rw[p];exact M),Wa ⟨hi.1,by omega⟩,p,v];simp only[Result.andThen_ok,r];unfold Addr.add;split
     ·rename_i N;rw[XA,N];rfl
     ·rw[XA,Xz]
    ·cases e
   ·cases e
  ·cases e
 ·cases e
end
section
variable  {P : Program}{tab : Tab}
theorem Tells.fieldAddr (ok:bz P tab){cx:Cx}{D:DSt}{w:World}{t:TypeId}{x s:DSl}{p:Value}(a:Tells cx D w x p){f:Nat}
  (e:lS tab t x f=some s):∃y,(Instr.fieldAt t p f).run P w = .ok y w∧Tells cx D w s y:=by
 unfold lS at e;split at e
 ·rename_i sz A F offs q;obtain⟨fs,B,c,r⟩:=RQ (Tab.ok ok q) rfl;simp only[Wb]at e;obtain⟨o,v,e⟩:=e;rw[c,Wr,We]at v;obtain⟨h,hfl,rfl⟩:=v;obtain⟨i,hi,u⟩:=r h (by have:=Wd hfl;simpa using this);have g:∀(b off:Nat),(Instr.fieldAt t (.pointer (some ⟨b,off,none⟩)) f).run P w = .ok (.pointer (some ⟨b,off+h.offset,none⟩)) w:=by
   intro b off;have j:fs[f]?=some h:=by simpa using hfl
   have:Addr.add ⟨b,off,none⟩ h.offset=⟨b,off+h.offset,none⟩:=by unfold Addr.add;split<;>simp_all
   simp[Instr.fieldAt,run_underlying B,j,Instr.sureAddr,fieldPlace,sizeOf,typeInfo,hi,u,this]
  split at e
  ·cases e;obtain⟨b,ts,hb,l⟩:=a.val;exact⟨_,by rw[l];exact g _ _,⟨⟨b,ts,hb,by rw[Xz]⟩,a.mem,a.kind,rfl⟩⟩
  ·cases e;obtain⟨d,z,n,C,m,l⟩:=a.val;exact⟨_,by rw[l];exact g _ _,⟨⟨d,z,n,C,m,by rw[Xz]⟩,a.mem,a.kind,rfl⟩⟩
  ·rename_i k b ts off;cases e;have l:p = .pointer (some ⟨b.1,b.2+off,none⟩):=a.val;exact⟨_,by rw[l];exact g _ _,⟨by show _=_;rw[Xz],a.mem,a.kind,rfl⟩⟩
  ·cases e
 ·cases e
theorem Tells.len (ok:bz P tab){cx:Cx}{D:DSt}{w:World}{t:TypeId}{x:DSl}{i:Value}(h:Tells cx D w x i){n:Int}
  (e:yl tab t x=some n) (ty:TypeId):(Builtin.len_ #[t] ty #[i]).run P w = .ok (.int .i64 n) w:=by
 unfold yl at e;split at e
 ·rename_i sz j o k b;have f:=gk (Tab.ok ok b) rfl;have g:P.elem t=k:=by simp[Program.elem,f]
  split at e
  ·split at e
   ·cases e
   ·cases e;have c:=h.val;simp only[VS,VT]at c;rw[c,run_len_slice w t ty _ _ _ (by rw[g];exact f)];rfl
  ·cases e;obtain⟨d,z,n,a,p,l,c,q,m⟩:=h.val;rw[c,run_len_slice w t ty _ _ _ (by rw[g];exact f)];rfl
  ·cases e
 ·rename_i b;have f:=xu (Tab.ok ok b) rfl;split at e
  ·cases e;have c:=h.val.1;rw[c,run_len_string w t ty _ f];rfl
  ·cases e
 ·cases e
theorem TB {cx:Cx}{D:DSt}{w:World}{s:DSl}{y:Value}(h:Tells cx D w s y)(e:EC s=true):∃a,y = .pointer (some a):=by
 cases s<;>simp[EC]at e
 ·obtain⟨b,ts,_,c⟩:=h.val;exact⟨_,c⟩
 ·obtain⟨d,z,n,_,_,c⟩:=h.val;exact⟨_,c⟩
 ·exact⟨_,h.val⟩
theorem Ck {cx:Cx}{D:DSt}{b:List (DT×Value)}{a:Act}{w:World}(I:Inv cx D b a.tmps w){x:Option Operand}{n:Option Int}(h:jG nilD D x=some n):
  ∃p:Option (IntKind×Int),n=p.map Prod.snd∧x.map a.eval=bV p:=by
 unfold jG at h;split at h
 ·cases h;exact⟨none,rfl,rfl⟩
 ·rename_i x;split at h
  ·rename_i k n' e;cases h;have:=(I.opd e).val.1;exact⟨some (k,n'),rfl,by simp only[Wc];rw[show a.eval x=_ from this]⟩
  ·cases h
theorem Ti (ok:bz P tab){op:BinOp}{t:Nat}{us k:List DT}{xs ys:Array Value}(o:VCells us xs.toList)(p:VCells k ys.toList){z:Value}(e:eqS tab op t us k=some z)(x y:Operand)(w:World):
  (do eqGuard op t x y (.agg xs) (.agg ys);binOp op t (.agg xs) (.agg ys):Sem Value).run P w = .ok z w∧z.oneCell'=true:=by
 have g:∀{b:Bool},(tab.eq t).bind (kG tab us k)=some b→(∀a,(eqGuard a t x y (.agg xs) (.agg ys)).run P w = .ok () w)∧(Op.equalIn 10000 t (.agg xs) (.agg ys)).run P w = .ok b w:=by
  intro b h;rw[Wb]at h;obtain⟨l,j,r⟩:=h;have d:=Tab.okEq ok j;unfold Oz at d;split at d
  ·rename_i fs q;split at d
   ·rename_i hc;cases d;refine⟨fun a=>run_eqGuard_agg w a t x y xs ys hc.2.1,?_⟩;have hf:P.fieldsOf t=fs:=by simp[Program.fieldsOf,q]
    rw[run_equalIn_struct (P:=P) w 9999 t xs ys (by rw[hf];exact q) hc.1,hf];have s : ∀ f ∈ fs.toList, (f.name == "_") = false := by intro f m;have:=hc.2.2;rw[Yv]at this;have:=this f (by simpa using m);simpa using this
    exact BY ok (fun i u y hi c=>o.2 i u y hi (by simpa using c)) (fun i u y hi c=>p.2 i u y hi (by simpa using c)) (by simpa using o.1) (by simpa using p.1) 9998 w fs.toList s r
   ·cases d
  ·cases d
 unfold eqS at e;split at e
 ·rw[We]at e;obtain⟨b,j,rfl⟩:=e;obtain⟨g1,n⟩:=g j;refine⟨?_,rfl⟩;simp only[Sem.run_bind,g1,Result.andThen_ok];rw[run_eql_struct,n];rfl
 ·rw[We]at e;obtain⟨b,j,rfl⟩:=e;obtain⟨g1,n⟩:=g j;refine⟨?_,rfl⟩;simp only[Sem.run_bind,g1,Result.andThen_ok];rw[run_neq_struct,n];rfl
 ·cases e
theorem Tells.indexArr {P:Program}{tab:Tab}(ok:bz P tab){cx:Cx}{D:DSt}{w:World}{t:TypeId}{offs hs:List Nat}{q:Value}(r:Tells cx D w (.clo (.arr offs) hs) q){k:IntKind}{n:Int}(s:0≤n)
  (v:tab.ars.lookup t=some hs.length) (F:offs.length=hs.length) {h o:Nat} (hh:hs[n.toNat]?=some h) (x:offs[n.toNat]?=some o):
  ∃y,(Instr.index t q (.int k n)).run P w = .ok y w∧Tells cx D w (.pb h o) y:=by
 have a:=ok.ars _ (iK v);obtain⟨c,G,z,A⟩:=r.val;have B:n.toNat<hs.length:=by
  rcases Wl n.toNat hs.length with g|g
  ·exact g
  ·rw[Wh g]at hh;cases hh
 have hb:c[n.toNat]?=some c[n.toNat]:=Wg (by omega);obtain⟨ts,C⟩:=z _ _ _ hh hb;unfold R6 at a;split at a
 case h_2=>cases a
 rename_i len e d;split at a
 case h_2=>cases a
 rename_i pe i j l;split at a
 case isFalse=>cases a
 rename_i m;cases a;have b:((c.zip offs).map fun p=>Value.pointer (some ⟨p.1.1,p.1.2+p.2,none⟩)).toArray[n.toNat]?=some (Value.pointer (some ⟨c[n.toNat].1,c[n.toNat].2+o,none⟩)):=by
  have hz:(c.zip offs)[n.toNat]?=some (c[n.toNat],o):=by rw[Ya];exact⟨hb,x⟩
  rw[Yk,Wr,hz];rfl
 refine⟨.pointer (some ⟨c[n.toNat].1,c[n.toNat].2+o,none⟩),?_,⟨⟨_,ts,C,rfl⟩,⟨fun u d=>by simp[aj]at d,fun u d=>by simp[rootsO]at d,trivial⟩,fun u d=>by simp[aj]at d,rfl⟩⟩;rw[A];have f:(0≤n∧n<(hs.length:Int)):=⟨s,by omega⟩
 simp only[Jm]at b ⊢;generalize (List.map (fun p=>Value.pointer (some ⟨p.1.1,p.1.2+p.2,none⟩)) (c.zip offs)).toArray=arr at b ⊢;simp[Instr.index,asIntOf,Go.underlying,d,f,part,isAgg,j,sizeOf,typeInfo,l,m,b]
theorem rN (ok:bz P tab){cx:Cx}{D:DSt}{a:Act}{w:World}(I:Inv cx D [] a.tmps w){o:Oper}{s:DSl}(e:b9 mkD tab D o.op=some s):
  ∃y,(execOp a.eval o).run P w = .ok (.value y) w∧Tells cx D w s y:=by
 have q:∀{x:Operand}{s:DSl},opd mkD.nil D x=some s→Tells cx D w s (a.eval x):=fun h=>I.opd h
 have one:∀{x:Operand}{v:Value},opd mkD.nil D x=some (.one (.v v))→a.eval x=v:=fun h=>(I.opd h).val.1
 unfold b9 at e;split at e
 ·rename_i x g;exact⟨_,by simp[execOp,g],q e⟩
 ·rename_i x g;exact⟨_,by simp[execOp,g],q e⟩
 ·rename_i c x y g;split at e
  ·rename_i hc;exact⟨_,by simp[execOp,g,one hc,asBool],q e⟩
  ·rename_i hc;exact⟨_,by simp[execOp,g,one hc,asBool],q e⟩
  ·cases e
 ·rename_i x g;simp only[Wb]at e;obtain⟨s',hs,e⟩:=e;split at e
  ·rename_i r;cases e;obtain⟨ad,L⟩:=TB (q hs) r;exact⟨a.eval x,by simp[execOp,g,L],q hs⟩
  ·cases e
 ·rename_i op t x y ty g;split at e
  ·rename_i J K F hb;rw[We]at e;obtain⟨z,hz,rfl⟩:=e;have:=R8 ok x y w hz;refine⟨z,?_,.one_v _ (R7 hz)⟩;simp only[execOp,g,one F,one hb];simp only[Sem.run_bind]at this ⊢;rw[this];rfl
  ·rename_i us vs F hb;rw[We]at e;obtain⟨z,hz,rfl⟩:=e;obtain⟨xs,M,N⟩:=(q F).val;obtain⟨ys,X,O⟩:=(q hb).val;obtain⟨m,u⟩:=Ti ok (op:=op) (t:=t) N O hz x y w;refine⟨z,?_,.one_v _ u⟩;simp only[execOp,g,M,X];simp only[Sem.run_bind]at m ⊢;rw[m];rfl
  ·cases e
 ·rename_i op t x g;split at e
  ·rename_i b hb;split at e
   ·cases e;exact⟨_,by simp[execOp,g,one hb,Op.unary],.one_v _ rfl⟩
   ·cases e
  ·rename_i k n hb;split at e
   ·cases e;exact⟨_,by simp[execOp,g,one hb,Op.unary,Op.intArith],.one_v _ rfl⟩
   ·cases e
  ·cases e
 ·rename_i Q dst x g;split at e
  ·rename_i k n ts sz Y ze k' M hs hd;cases e;have m:=E2 (Tab.ok ok hd) rfl;obtain⟨i,d,z,g1,Z,_⟩:=gK (Tab.ok ok hs);have W:P.intKind dst=k':=by simp[Program.intKind,m]
   refine⟨_,?_,.one_v _ rfl⟩;simp only[execOp,g,one M,Sem.run_bind];rw[run_convert_int w Q dst k n (by simp[Z]) (by rw[W];exact m)];simp[W]
  ·cases e
 ·rename_i t x g;split at e
  ·rename_i p ti r A;split at e
   ·cases e
   ·rename_i R;obtain⟨y,m,u⟩:=Tells.load I (Tab.ok ok A) R (q r) e;exact⟨y,by simp[execOp,g,m],u⟩
  ·cases e
 ·rename_i t x f g;simp only[Wb]at e;obtain⟨p,r,e⟩:=e;obtain⟨y,m,u⟩:=Tells.fieldAddr ok (q r) e;exact⟨y,by simp[execOp,g,m],u⟩
 ·rename_i t x i g;split at e
  ·rename_i p k n r G;obtain⟨y,m,u⟩:=Tells.indexAddr ok I (q r) (k:=k) e;exact⟨y,by simp[execOp,g,one G,m],u⟩
  ·cases e
 ·rename_i t x i g;split at e
  ·rename_i str k n hs G;split at e
   ·rename_i A;obtain⟨ti,A,S⟩:=S9 A;have hu:=xu (Tab.ok ok A) S;split at e
    ·rename_i hb;cases e;refine⟨.int .u8 (iP str n),?_,.one_v _ rfl⟩;have Z0:n.toNat<str.size:=by omega
     simp only[execOp,g,one hs,one G,Sem.run_bind];have:=run_index_string (P:=P) w t str k n hu;rw[this];simp[hb.1,hb.2,iP]
    ·cases e
   ·cases e
  ·rename_i offs hs k n r G;split at e
   case isFalse=>cases e
   rename_i hc;split at e
   case h_2=>cases e
   rename_i h o hh ho;cases e;obtain⟨y,m,u⟩:=Tells.indexArr ok (q r) (k:=k) hc.1 hc.2.1 hc.2.2 hh ho;exact⟨y,by simp[execOp,g,one G,m],u⟩
  ·cases e
 ·rename_i t x lo hi g;split at e
  ·rename_i s' l h hs hl hh;obtain⟨pl,rfl,U⟩:=Ck I hl;obtain⟨ph,rfl,V⟩:=Ck I hh;obtain⟨y,m,u⟩:=Tells.slice ok I (q hs) pl ph e;exact⟨y,by simp[execOp,g,U,V,m],u⟩
  ·cases e
 ·rename_i c g;unfold DS at e;split at e
  ·rename_i x t hc j C;obtain⟨H,args,B⟩:=c;simp only at hc j C;obtain rfl:args = #[x]:=by rw[←XH];exact j
   obtain rfl:B = #[t]:=by rw[←XH];exact C
   subst hc;simp only[Wb]at e;obtain⟨p,r,e⟩:=e;rw[We]at e;obtain⟨n,G,rfl⟩:=e;have:=Tells.len ok (q r) G o.type;exact⟨_,by simp[execOp,g,resolve,invoke,builtin,this],.one_v _ rfl⟩
  ·rename_i ts x y hc j;obtain⟨H,args,B⟩:=c;simp only at hc j;obtain rfl:args = #[x,y]:=by rw[←XH];exact j
   subst hc;split at e
   ·rename_i k J k' K F hb;cases e;have:=run_max_int2 (P:=P) w B o.type k k' J K;exact⟨_,by simp[execOp,g,resolve,invoke,builtin,one F,one hb,this],.one_v _ rfl⟩
   ·cases e
  ·rename_i ts x y hc j;obtain⟨H,args,B⟩:=c;simp only at hc j;obtain rfl:args = #[x,y]:=by rw[←XH];exact j
   subst hc;split at e
   ·rename_i k J k' K F hb;cases e;have:=run_min_int2 (P:=P) w B o.type k k' J K;exact⟨_,by simp[execOp,g,resolve,invoke,builtin,one F,one hb,this],.one_v _ rfl⟩
   ·cases e
  ·cases e
 ·cases e
end
def mq (t:DT)(st:List (Nat×Nat))(d:Dec)(z n:Nat):Prop:=∃k rows,getN t st=some (.s k d z rows)∧rows.length=n
def qV (h c:Nat)(st:List (Nat×Nat)):DSl→Prop| .al b d a _ _=>b=h∧d=c∧a=st| .pe b d a _ _=>b=h∧d=c∧a=st|_=>False
def sg (h c:Nat)(s:DSl):Prop :=(∃a b ts off,s = .im (.lent h c a) b ts off)∨∃a d z r,(.s (.lent h c a) d z r:DT)∈rootsO s
theorem Ah {s:DSl}{cs a:List DT}(h:aZ s=some cs)(c:a.length=cs.length):aZ (setCells a s)=some a:=by
 cases s with
 |one t=>cases h;obtain⟨u,rfl⟩:=List.length_eq_one_iff.1 c;rfl
 |agg ts=>rfl
 |box b ts=>rfl
 |_=>cases h
theorem kS {s:DSl}{cs:List DT}(h:aZ s=some cs):aj s=cs∧rootsO s=cs:=by cases s<;>cases h<;>exact⟨rfl,rfl⟩
theorem Gs {D D':DSt}{h c:Nat}{t':DT}(e:gE D h c t'=some D'):
  ∃s cs,D[h]?=some s∧aZ s=some cs∧D'=D.set h (setCells (cs.set c t') s):=by
 unfold gE at e;split at e
 ·rename_i s hs;rw[We]at e;obtain⟨cs,a,rfl⟩:=e;exact⟨s,cs,hs,a,rfl⟩
 ·cases e
def wN (b:Nat):DSl→Nat| .box a _=>[a.1].count b|_=>0
theorem qB {s:DSl}{cs:List DT}(h:aZ s=some cs)(b:Nat):(ownBl s).count b=wN b s+(cs.flatMap ownR).count b:=by
 cases s with
 |one t=>cases h;simp[ownBl,wN]
 |agg ts=>cases h;simp[ownBl,wN]
 |box a ts=>cases h;rw[wN, ←WD];rfl
 |_=>cases h
structure Ui (cx:Cx)(D:DSt)(P P':List (DT×Value))(w w':World)(h c:Nat)(t t':DT):Prop where
 at_:av D h c=some t
 own:t.isOwn=true
 holds:Holds w' t'
 ownT:t'.isOwn=true→OwnT w' t'
 kind:t'.isOwn=true∨t' = .any
 val:∀y,VT t y→VT t' y
 cnt:∀b,(ownR t').count b+aV P' b≤(if b<w.heap.size then(ownR t).count b+aV P b else 1)
 new:∀b,w.heap.size≤b→0<(ownR t').count b+aV P' b→b<w'.heap.size
 hides:∀s∈D,¬sg h c s
 speak:∀s∈D,∀st,qV h c st s→t'.isOwn=true∧∀d z n,mq t st d z n→mq t' st d z n
 size:w.heap.size≤w'.heap.size
 same:∀b,b<w.heap.size→b∉bl t→w'.heap[b]?=w.heap[b]?
 os:w'.os=w.os
 tape:w'.tape=w.tape
 output:w'.output=w.output
 pend:∀p∈P',VT p.1 p.2∧Holds w' p.1∧(p.1.isOwn=true→OwnT w' p.1)∧(p.1.isOwn=false→∀x∈bl p.1,cx.far x)
theorem cI {D:DSt}{s:DSl}{b:Nat}(hs:s∈D)(hb:b∈ownBl s):0<bv D b:=by unfold bv;exact Wz.2 (Wq.2 ⟨s,hs,hb⟩)
theorem Inv.apart {cx:Cx}{D:DSt}{P:List (DT×Value)}{tm:Array Value}{w:World}(I:Inv cx D P tm w){u v:Nat}{s s':DSl}(a:u≠v)(hs:D[u]?=some s)(c:D[v]?=some s')
  {b:Nat} (hb:b∈ownBl s) (d:b∈ownBl s'):False:=by
 have f:=bR ownBl (Sl.any:DSl) b D u s hs;have g:(ownBl (Sl.any:DSl)).count b=0:=rfl;have h:0<((D.set u .any).flatMap ownBl).count b:=by refine Wz.2 (Wq.2 ⟨s',?_,d⟩);refine Wd (i:=v) ?_;rw[Ws a];exact c
 have e:=I.once b;have j:0<(ownBl s).count b:=Wz.2 hb;unfold bv at e;omega
theorem OQ {ts:List DT}{b:Nat}(hc:(ts.flatMap ownR).count b≤1){i j:Nat}{u v:DT}(a:i≠j)(hi:ts[i]?=some u)(c:ts[j]?=some v)(d:b∈ownR u)(hv:b∈ownR v):False:=by
 have e:=bR ownR (T.any:DT) b ts i u hi;have f:(ownR (T.any:DT)).count b=0:=rfl;have g:0<((ts.set i .any).flatMap ownR).count b:=by refine Wz.2 (Wq.2 ⟨v,?_,hv⟩);refine Wd (i:=j) ?_;rw[Ws a];exact c
 have h:0<(ownR u).count b:=Wz.2 d;omega
theorem Inv.cells_once {cx:Cx}{D:DSt}{P:List (DT×Value)}{tm:Array Value}{w:World}(I:Inv cx D P tm w){h:Nat}{s:DSl}{cs:List DT}(hs:D[h]?=some s)(hc:aZ s=some cs)(b:Nat):
  (cs.flatMap ownR).count b≤1:=by
 have c:=qB hc b;have a:=I.once b;have d:=bR ownBl (Sl.any:DSl) b D h s hs;have e:(ownBl (Sl.any:DSl)).count b=0:=rfl;unfold bv at a;omega
theorem Inv.owner {cx:Cx}{D:DSt}{P:List (DT×Value)}{tm:Array Value}{w:World}(I:Inv cx D P tm w){h c:Nat}{t:DT}(hc:av D h c=some t)(m:t.isOwn=true)
  {j k:Nat} {t':DT} (a:av D j k=some t') (d:t'.isOwn=true) {b:Nat} (hb:b∈bl t) (f:b∈bl t'):j=h∧k=c:=by
 obtain⟨s,q,z,A,r,u⟩:=ce hc;obtain⟨s',g1,B,g3,v,g4⟩:=ce a;by_cases e:j=h
 ·subst e;refine⟨rfl,?_⟩;by_cases n:k=c
  ·exact n
  ·exfalso;unfold av at hc a;simp only[Wb]at hc a;obtain⟨cs,⟨C,o,p⟩,x⟩:=hc;obtain⟨y,⟨F,g,i⟩,l⟩:=a;rw[o]at g;cases g;rw[p]at i;cases i;exact OQ (ts:=cs) (I.cells_once o p b) n l x (by simp[ownR,d,f]) (by simp[ownR,m,hb])
 ·exact(I.apart e g1 q (g4 d b f) (u m b hb)).elim
theorem Inv.root_out {cx:Cx}{D:DSt}{P:List (DT×Value)}{tm:Array Value}{w:World}(I:Inv cx D P tm w){h c:Nat}{t:DT}(hc:av D h c=some t)(q:t.isOwn=true)
  {u:Nat} {s:DSl} (hs:D[u]?=some s) (A:¬sg h c s) {v:DT} (hv:v∈aj s) (J:u=h→∃(i:Nat) (cs:List DT),aZ s=some cs∧cs[i]?=some v∧i≠c) {b:Nat} (hb:b∈bl v) (g:b∈bl t):False:=by
 obtain⟨sh,l,B,U,S,C⟩:=ce hc;have m:=(I.bnd b (by have:=cI B (C q b g);omega)).1;have y:=I.kind s (Wd hs);have a:v∈rootsO s→bK cx D v→(v.isOwn=true→False)→False:=by
  intro K F j;cases v with
  |v x=>simp[bl]at hb
  |any=>simp[bl]at hb
  |s k d z r =>
   cases k with
   |far=>exact Cx.far_not (F b hb) m
   |lent V W L =>obtain⟨t',g1,M,g3,X⟩:=F;obtain⟨rfl,rfl⟩:=I.owner hc q g1 M g (g3 b hb);exact A (.inr ⟨L,d,z,r,K⟩)
   |own=>exact j rfl
 have home:∀cs,aZ s=some cs→v.isOwn=true→False:=by
  intro cs G j;by_cases e:u=h
  ·obtain⟨i,Y,H,hi,N⟩:=J e;have n:av D u i=some v:=by simp[av,hs,H,hi]
   exact N (I.owner hc q n j g hb).2
  ·rw[(kS G).1]at hv;obtain⟨i,hi⟩:=Wm hv;have n:av D u i=some v:=by simp[av,hs,G,hi]
   exact e (I.owner hc q n j g hb).1
 cases s with
 |one x=>exact a hv (y v hv) (home _ rfl)
 |agg x=>exact a hv (y v hv) (home _ rfl)
 |box O x=>exact a hv (y v hv) (home _ rfl)
 |tup rs =>
  refine a hv (y v hv) fun j=>?_
  have Q:b∈ownBl (.tup rs:DSl):=by simp only[aj,Wq]at hv;obtain⟨p,R,hv⟩:=hv;simp only[ownBl,Wq];exact⟨p,R,v,hv,by simp[ownR,j,hb]⟩
  by_cases e:u=h
  ·subst e;rw[hs]at l;cases l;simp[av,hs,aZ]at hc
  ·exact I.apart e hs l Q (C q b g)
 |im k O ts off =>
  have o:pD cx D k O.1 ts:=y;cases k with
  |own=>exact o
  |far=>exact Cx.far_not (o.2 v hv b hb) m
  |lent V W L =>obtain⟨t',g1,M,g3,g4⟩:=o;obtain⟨rfl,rfl⟩:=I.owner hc q g1 M g (g4 v hv b hb);exact A (.inl ⟨L,O,ts,off,rfl⟩)
 |fni f caps =>simp only[aj,Wq]at hv;obtain⟨p,R,hv⟩:=hv;exact Cx.far_not ((y p R).2 v hv b hb) m
 |any=>simp[aj]at hv
 |al=>simp[aj]at hv
 |pe=>simp[aj]at hv
 |pb=>simp[aj]at hv
 |clo=>simp[aj]at hv
theorem kZ {h c:Nat}{s:DSl}(hs:¬sg h c s):∀a d z r,(.s (.lent h c a) d z r:DT)∉rootsO s :=
 fun a d z r b=>hs (.inr ⟨a,d,z,r,b⟩)
theorem Inv.upd {cx:Cx}{D D':DSt}{P P':List (DT×Value)}{tm:Array Value}{w w':World}(I:Inv cx D P tm w){h c:Nat}{t t':DT}(e:gE D h c t'=some D')
  (U:Ui cx D P P' w w' h c t t'):Inv cx D' P' tm w':=by
 obtain⟨F,cs,hs0,m,rfl⟩:=Gs e;have O:=U.at_;have hct:cs[c]?=some t:=by have:=U.at_;simp only[av,hs0,V9,m]at this;exact this
 have Z5:(cs.set c t').length=cs.length:=by simp
 have J:h<D.length:=by
  rcases Wl h D.length with g|g
  ·exact g
  ·rw[Wh g]at hs0;cases hs0
 have A:c<cs.length:=by
  rcases Wl c cs.length with g|g
  ·exact g
  ·rw[Wh g]at hct;cases hct
 have C:=Ah m Z5;have Z1:=Wd hs0;have l:∀q o,¬(q=h∧o=c)→av (D.set h (setCells (cs.set c t') F)) q o=av D q o:=by
  intro q o Z3;by_cases e:q=h
  ·subst e;have Z6:o≠c:=fun g=>Z3 ⟨rfl,g⟩
   unfold av;rw[Wp J,hs0];simp only[V9,C,m];rw[Ws (fun g=>Z6 g.symm)]
  ·exact na e
 have N:av (D.set h (setCells (cs.set c t') F)) h c=some t':=by unfold av;rw[Wp J];simp only[V9,C];rw[Wp A]
 have Z2:∀b,bv (D.set h (setCells (cs.set c t') F)) b+(ownR t).count b=bv D b+(ownR t').count b:=by
  intro b;have h1:=bR ownBl (setCells (cs.set c t') F) b D h F hs0;have h2:=qB m b;have h3:=qB C b;have h4:=bR ownR t' b cs c t hct;have h5:wN b (setCells (cs.set c t') F)=wN b F:=by cases F<;>rfl
  rw[h5]at h3;unfold bv;omega
 have V:∀(u:Nat)(s:DSl),D[u]?=some s→¬sg h c s:=fun u s hs=>U.hides s (Wd hs)
 have Z4:∀b∈bl t,cx.may b:=by intro b hb;obtain⟨sh,g1,Q,g3,Z7,g4⟩:=ce O;exact(I.bnd b (by have:=cI Q (g4 U.own b hb);omega)).1
 have K:∀(u:Nat)(X:Nat×Nat)(ts:List DT),D[u]?=some (.box X ts)→X.1∉bl t:=by
  intro u X ts hb S;obtain⟨sh,g1,Q,g3,Z7,g4⟩:=ce O;by_cases e:u=h
  ·subst e;rw[hs0]at hb;cases hb;cases m;have h1:=I.once X.1;have h2:(ownBl (.box X cs:DSl)).count X.1=1+(cs.flatMap ownR).count X.1:=by simp[ownBl,YB]
   have h3:=bR ownBl (Sl.any:DSl) X.1 D u _ hs0;have h0:(ownBl (Sl.any:DSl)).count X.1=0:=rfl;have h4:0<(cs.flatMap ownR).count X.1:=Wz.2 (Wq.2 ⟨t,Wd hct,by simp[ownR,U.own,S]⟩);unfold bv at h1;omega
  ·exact I.apart e hb g1 (by simp[ownBl]) (g4 U.own _ S)
 have fr:∀{v:DT},(∀b∈bl v,b∈bl t→False)→∀b∈bl v,b<w.heap.size→w'.heap[b]?=w.heap[b]?:=fun h b hb J=>U.same b J fun B=>h b hb B
 have lies:∀{b:Nat×Nat}{ts:List DT},b.1∉bl t→Lies w b ts→Lies w' b ts:=by rintro b ts hb ⟨o,e',f,h1,h2⟩;exact⟨o,e',f,by rw[U.same _ (dY h1) hb];exact h1,h2⟩
 refine⟨by have:=I.size;simpa using this,?_,?_,?_,U.pend,?_,?_,?_⟩
 ·intro u s hs;have vs:∀(s:DSl),s∈D→∀y,VS D s y→VS (D.set h (setCells (cs.set c t') F)) s y:=by
   intro s Z8 y hv;have nd:∀q o st d z n,qV q o st s→e8 D q o st d z n→e8 (D.set h (setCells (cs.set c t') F)) q o st d z n:=by
    intro q o st d z n hsp hn;by_cases e:q=h∧o=c
    ·obtain⟨rfl,rfl⟩:=e;obtain⟨t1,G,L,k3⟩:=hn;rw[O]at G;cases G;obtain⟨g1,Q⟩:=U.speak s Z8 st hsp;exact⟨t',N,g1,Q d z n k3⟩
    ·unfold e8;rw[l q o e];exact hn
   have bx:∀(q:Nat)(b:Nat×Nat)(ts:List DT),D[q]?=some (.box b ts)→∃ts',(D.set h (setCells (cs.set c t') F))[q]?=some (.box b ts'):=by
    intro q b ts hb;by_cases e:q=h
    ·subst e;rw[hs0]at hb;cases hb;exact⟨_,by rw[Wp J];rfl⟩
    ·exact⟨ts,by rw[Ws (fun g=>e g.symm)];exact hb⟩
   cases s with
   |al q o st lo len =>obtain⟨d,z,n,a,G,L⟩:=hv;exact⟨d,z,n,a,nd q o st d z n ⟨rfl,rfl,rfl⟩ G,L⟩
   |pe q o st i off =>obtain⟨d,z,n,G,L⟩:=hv;exact⟨d,z,n,nd q o st d z n ⟨rfl,rfl,rfl⟩ G,L⟩
   |pb q off =>obtain⟨b,ts,G,L⟩:=hv;obtain⟨ts',k3⟩:=bx _ _ _ G;exact⟨b,ts',k3,L⟩
   |clo f hs =>obtain⟨bs,G,L,k3⟩:=hv;exact⟨bs,G,fun i h b hi hb=>by obtain⟨ts,k4⟩:=L i h b hi hb;exact bx _ _ _ k4,k3⟩
   |_=>exact hv
  by_cases Y:u=h
  ·subst Y;rw[Wp J]at hs;cases hs;have hv:=I.val u F hs0;have cells:∀ys:List Value,VCells cs ys→VCells (cs.set c t') ys:=by
    rintro ys ⟨G,L⟩;refine⟨by simpa using G,fun i v y hi hy=>?_⟩;by_cases R:i=c
    ·subst R;rw[Wp A]at hi;cases hi;exact U.val y (L i t y hct hy)
    ·rw[Ws (fun g=>R g.symm)]at hi;exact L i v y hi hy
   cases F with
   |one x =>
    cases m;have:c=0:=by simp at A;exact A
    subst this;simp at hct;subst hct;exact U.val _ hv
   |agg ts =>cases m;obtain⟨ys,G,L⟩:=hv;exact⟨ys,G,cells _ L⟩
   |box b ts=>exact hv
   |_=>cases m
  ·rw[Ws (fun g=>Y g.symm)]at hs;exact vs s (Wd hs) _ (I.val u s hs)
 ·intro s hs;obtain⟨u,hu⟩:=Wm hs;by_cases Y:u=h
  ·subst Y;rw[Wp J]at hu;cases hu;have S:=I.mem F Z1;have hr:=kS m;have Z:=kS C;have W:∀i v,cs[i]?=some v→i≠c→∀b∈bl v,b∈bl t→False:=by intro i v hi Z9 b hb B;exact I.root_out O U.own hs0 (V _ _ hs0) (v:=v) (by rw[hr.1];exact Wd hi) (fun _=>⟨i,cs,m,hi,Z9⟩) hb B
   refine⟨?_,?_,?_⟩
   ·intro v hv;rw[Z.1]at hv;obtain⟨i,hi⟩:=Wm hv;by_cases R:i=c
    ·subst R;rw[Wp A]at hi;cases hi;exact U.holds
    ·rw[Ws (fun g=>R g.symm)]at hi;exact(S.1 v (by rw[hr.1];exact Wd hi)).frame (fr (W i v hi R))
   ·intro v hv ho;rw[Z.2]at hv;obtain⟨i,hi⟩:=Wm hv;by_cases R:i=c
    ·subst R;rw[Wp A]at hi;cases hi;exact U.ownT ho
    ·rw[Ws (fun g=>R g.symm)]at hi;exact(S.2.1 v (by rw[hr.2];exact Wd hi) ho).frame (fr (W i v hi R))
   ·cases F with
    |box b ts =>
     cases m;have hb:=K u b _ hs0;obtain⟨G,L⟩:=S.2.2;refine⟨?_,?_⟩
     ·obtain⟨o,e',f,g1,Q⟩:=lies hb G;refine⟨o,e',f,g1,fun j v hj=>?_⟩;by_cases ej:j=c
      ·subst ej;rw[Wp A]at hj;cases hj;obtain⟨y,g3,g4⟩:=Q j t hct;exact⟨y,g3,U.val y g4⟩
      ·rw[Ws (fun g=>ej g.symm)]at hj;exact Q j v hj
     ·intro o e' lo hi g1;rw[U.same _ G.lt hb]at g1;simpa using L o e' lo hi g1
    |one x=>trivial
    |agg x=>trivial
    |_=>cases m
  ·rw[Ws (fun g=>Y g.symm)]at hu;have S:=I.mem s (Wd hu);have W:∀v∈aj s,∀b∈bl v,b∈bl t→False:=fun v hv b hb B =>I.root_out O U.own hu (V _ _ hu) hv (fun g=>absurd g Y) hb B
   refine⟨fun v hv=>(S.1 v hv).frame (fr (W v hv)),fun v hv ho=>?_,?_⟩
   ·have Za:v∈aj s:=by cases s<;>simp_all[rootsO,aj]
    exact(S.2.1 v hv ho).frame (fr (W v Za))
   ·have H:=I.kind s (Wd hu);cases s with
    |box b ts =>have hb:=K u b _ hu;obtain⟨G,L⟩:=S.2.2;exact⟨lies hb G,fun o e' lo hi g1=>by rw[U.same _ G.lt hb]at g1;exact L o e' lo hi g1⟩
    |im k b ts off =>
     refine lies ?_ S.2.2;intro B;cases k with
     |own=>exact H
     |far=>exact Cx.far_not H.1 (Z4 _ B)
     |lent q o M =>obtain⟨t1,g1,Q,g3,g4⟩:=H;obtain⟨rfl,rfl⟩:=I.owner O U.own g1 Q B g3;exact V _ _ hu (.inl ⟨M,b,ts,off,rfl⟩)
    |fni f caps=>exact fun p hp=>lies (fun B=>Cx.far_not (H p hp).1 (Z4 _ B)) (S.2.2 p hp)
    |_=>trivial
 ·intro s hs;obtain⟨u,hu⟩:=Wm hs;have kt:∀v:DT,(∀M d z r,v ≠ .s (.lent h c M) d z r)→bK cx D v→bK cx (D.set h (setCells (cs.set c t') F)) v:=by
   intro v Z3 H;cases v with
   |v x=>trivial
   |any=>trivial
   |s k d z r =>
    cases k with
    |own=>trivial
    |far=>exact H
    |lent q o M =>obtain⟨t1,g1,Q,g3⟩:=H;refine⟨t1,?_,Q,g3⟩;rw[l q o (by rintro⟨rfl,rfl⟩;exact Z3 M d z r rfl)];exact g1
  by_cases Y:u=h
  ·subst Y;rw[Wp J]at hu;cases hu;have H:=I.kind F Z1;have hr:=kS m;have Z:=kS C;have all:∀v∈cs.set c t',bK cx (D.set u (setCells (cs.set c t') F)) v:=by
    intro v hv;obtain⟨i,hi⟩:=Wm hv;by_cases R:i=c
    ·subst R;rw[Wp A]at hi;cases hi;rcases U.kind with g|g
     ·cases t' with
      |v x=>trivial
      |any=>trivial
      |s k d z r=>cases k<;>first|trivial|(simp[T.isOwn]at g)
     ·rw[g];trivial
    ·rw[Ws (fun g=>R g.symm)]at hi;have Z0:v∈aj F:=by rw[hr.1];exact Wd hi
     refine kt v (fun M d z r g=>kZ (V _ _ hs0) M d z r (by rw[hr.2, ←hr.1];exact g ▸ Z0)) ?_;cases F with
     |one x=>exact H v Z0
     |agg x=>exact H v Z0
     |box b x=>exact H v Z0
     |_=>cases m
   cases F with
   |one x =>intro v hv;exact all v (by rw[←Z.1];exact hv)
   |agg x=>exact all
   |box b x=>exact all
   |_=>cases m
  ·rw[Ws (fun g=>Y g.symm)]at hu;have H:=I.kind s (Wd hu);have hh:=V _ _ hu;cases s with
   |im k b ts off =>
    cases k with
    |own=>exact H
    |far=>exact H
    |lent q o M =>obtain⟨t1,g1,Q,g3⟩:=H;refine⟨t1,?_,Q,g3⟩;rw[l q o (by rintro⟨rfl,rfl⟩;exact hh (.inl ⟨M,b,ts,off,rfl⟩))];exact g1
   |fni f caps=>exact H
   |any=>exact fun v hv=>by simp[aj]at hv
   |al=>exact fun v hv=>by simp[aj]at hv
   |pe=>exact fun v hv=>by simp[aj]at hv
   |pb=>exact fun v hv=>by simp[aj]at hv
   |clo=>exact fun v hv=>by simp[aj]at hv
   |one x=>exact fun v hv=>kt v (fun M d z r g=>kZ hh M d z r (g ▸ hv)) (H v hv)
   |agg x=>exact fun v hv=>kt v (fun M d z r g=>kZ hh M d z r (g ▸ hv)) (H v hv)
   |box b x=>exact fun v hv=>kt v (fun M d z r g=>kZ hh M d z r (g ▸ hv)) (H v hv)
   |tup x=>exact fun v hv=>kt v (fun M d z r g=>kZ hh M d z r (g ▸ hv)) (H v hv)
 ·intro b;have h1:=Z2 b;have h2:=U.cnt b;have h3:=I.once b;by_cases hb:b<w.heap.size
  ·rw[Wa hb]at h2;omega
  ·rw[Wo hb]at h2;have:bv D b+aV P b=0:=by
    rcases W4 (bv D b+aV P b)with g|g
    ·exact g
    ·exact absurd (I.bnd b g).2 hb
   omega
 ·intro b Zb;have h1:=Z2 b;have h2:=U.cnt b;by_cases hb:b<w.heap.size
  ·rw[Wa hb]at h2;exact⟨(I.bnd b (by omega)).1,WQ hb U.size⟩
  ·have:bv D b+aV P b=0:=by
    rcases W4 (bv D b+aV P b)with g|g
    ·exact g
    ·exact absurd (I.bnd b g).2 hb
   exact⟨.inl (W6 I.frame.size (Nat.le_of_not_lt hb)),U.new b (Nat.le_of_not_lt hb) (by omega)⟩
 ·refine⟨U.os.trans I.frame.os,U.tape.trans I.frame.tape,U.output.trans I.frame.output,W6 I.frame.size U.size,fun b hb=>?_⟩;rw[U.same b (WQ hb.1 I.frame.size) (fun B=>Cx.far_not hb (Z4 b B))];exact I.frame.same b hb
theorem vX {rows:List (List DT)}{i c:Nat}{row:List DT}{u u':DT}(hi:rows[i]?=some row)(a:row[c]?=some u)(b:Nat):
  ((rows.set i (row.set c u')).flatMap fun x=>x.flatMap bl).count b+(bl u).count b=(rows.flatMap fun x=>x.flatMap bl).count b+(bl u').count b:=by
 have d:=bR (fun x:List DT=>x.flatMap bl) (row.set c u') b rows i row hi;have e:=bR bl u' b row c u a;omega
theorem IP {k:Kd}{d:Dec}{z:Nat}{rows:List (List DT)}{i c:Nat}{row:List DT}{u:DT}(hi:rows[i]?=some row)(a:row[c]?=some u)(b:Nat):
  (bl u).count b+(if d.nil then 0 else [d.b].count b)≤(bl (.s k d z rows)).count b:=by
 have h:=vX (u' := .any) hi a b;rw[cJ,WD];have:(bl (.any:DT)).count b=0:=rfl;split<;>simp<;>omega
theorem PJ {rows:List (List DT)}{i c f j:Nat}{row a:List DT}{u v:DT}{b:Nat}(m:(rows.flatMap fun x=>x.flatMap bl).count b≤1)
  (hi:rows[i]?=some row) (n:row[c]?=some u) (d:rows[f]?=some a) (hj':a[j]?=some v) (k:¬(f=i∧j=c)) (o:b∈bl u) (hv:b∈bl v):False:=by
 have h:=vX (u':=(.any:DT)) hi n b;have p:(bl (.any:DT)).count b=0:=rfl;have q:0<(bl u).count b:=Wz.2 o;have l:i<rows.length:=by
  rcases Wl i rows.length with g|g
  ·exact g
  ·rw[Wh g]at hi;cases hi
 have r:0<((rows.set i (row.set c .any)).flatMap fun x=>x.flatMap bl).count b:=by
  refine Wz.2 (Wq.2 ?_);by_cases e:f=i
  ·subst e;rw[hi]at d;cases d;have hc:c≠j:=fun g=>k ⟨rfl,g.symm⟩
   refine⟨row.set c .any,Wd (i:=f) (by rw[Wp l]),Wq.2 ⟨v,Wd (i:=j) (by rw[Ws hc];exact hj'),hv⟩⟩
  ·exact⟨a,Wd (i:=f) (by rw[Ws (fun g=>e g.symm)];exact d),Wq.2 ⟨v,Wd hj',hv⟩⟩
 omega
structure NodeOk (w w':World)(n n':DT):Prop where
 holds:Holds w' n'
 own:OwnT w' n'
 val:∀y,VT n y→VT n' y
 same:∀b,b<w.heap.size→b∉bl n→w'.heap[b]?=w.heap[b]?
theorem GA {f:DT→Option DT}{w w':World}{n n':DT}(N:NodeOk w w' n n')(hf:f n=some n'):∀(st:List (Nat×Nat)){t t':DT},Holds w t→OwnT w t→(∀b,(bl t).count b≤1) →
  getN t st=some n→gl f t st=some t' →
  NodeOk w w' t t'∧(∀b,(bl t').count b+(bl n).count b=(bl t).count b+(bl n').count b)∧(st≠[]→t'.isOwn=true∧∀d z m,mq t [] d z m→mq t' [] d z m)∧getN t' st=some n'
 |[],t,t',hh,ho,W,G,L=>by cases G;simp only[gl,hf]at L;cases L;exact⟨N,fun b=>YB _ _,fun h=>absurd rfl h,rfl⟩
 |(i,c)::st,t,t',hh,ho,W,G,L=>by
  cases t with
  |v x=>simp[getN]at G
  |any=>simp[getN]at G
  |s k d z rows =>
   simp only[getN,Wb]at G;obtain⟨u,⟨row,hi,F⟩,G⟩:=G;simp only[gl,hi,F,V9,We]at L;obtain⟨u',L,rfl⟩:=L;have H:i<rows.length:=by
    rcases Wl i rows.length with g|g
    ·exact g
    ·rw[Wh g]at hi;cases hi
   have I:c<row.length:=by
    rcases Wl c row.length with g|g
    ·exact g
    ·rw[Wh g]at F;cases F
   cases hh with
   |e=>simp at hi
   |s _ _ _ _ B hsp c0 e0 f0 hb hcap hz hv hh =>
    cases ho with
    |nil=>simp at hi
    |s _ _ _ X hsp c1 e1 Y Z Q M hroom Z0 R =>
     have S:∀b,(bl u).count b+[d.b].count b≤1:=by intro b;have:=IP (k := .own) (d:=d) (z:=z) hi F b;rw[B]at this;simp only[WC,W2]at this;exact W6 this (W b)
     obtain⟨N',Z1,Z5,Z2⟩:=GA N hf st (hh i row c u hi F) (R i row c u hi F) (fun b=>by have:=S b;omega) G L;have C:∀b,b∈bl n→b∈bl u:=wM st G;have U:d.b∉bl n:=by intro hm;have h2:=S d.b;have h3:0<(bl u).count d.b:=Wz.2 (C _ hm);simp at h2;omega
     have Z3:w'.heap[d.b]?=some (.cells c0 e0 f0):=by rw[N.same _ (dY hb) U];exact hb
     have V:∀b,(rows.flatMap fun x=>x.flatMap bl).count b≤1:=by intro b;have:=W b;rw[cJ,WD]at this;exact W6 (Nat.le_add_left _ _) this
     have J:∀(p:Nat)(a:List DT),(rows.set i (row.set c u'))[p]?=some a→(p=i∧a=row.set c u')∨(p≠i∧rows[p]?=some a):=by
      intro p a o;by_cases e:p=i
      ·subst e;rw[Wp H]at o;cases o;exact .inl ⟨rfl,rfl⟩
      ·rw[Ws (fun g=>e g.symm)]at o;exact .inr ⟨e,o⟩
     have r:∀(p:Nat)(a:List DT)(j:Nat)(v:DT),(rows.set i (row.set c u'))[p]?=some a→a[j]?=some v →
       (p=i∧j=c∧v=u')∨(¬(p=i∧j=c)∧∃l,rows[p]?=some l∧l[j]?=some v):=by
      intro p a j v o q;rcases J p a o with⟨rfl,rfl⟩|⟨e,o⟩
      ·by_cases ej:j=c
       ·subst ej;rw[Wp I]at q;cases q;exact .inl ⟨rfl,rfl,rfl⟩
       ·rw[Ws (fun g=>ej g.symm)]at q;exact .inr ⟨fun g=>ej g.2,row,hi,q⟩
      ·exact .inr ⟨fun g=>e g.1,a,o,q⟩
     have K:∀(p:Nat)(l:List DT)(j:Nat)(v:DT),¬(p=i∧j=c)→rows[p]?=some l→l[j]?=some v→∀b∈bl v,b<w.heap.size→w'.heap[b]?=w.heap[b]?:=by intro p l j v D o q b hb O;exact N.same b O fun P=>PJ (V b) hi F o q D (C b P) hb
     refine⟨⟨?_,?_,?_,?_⟩,?_,?_,?_⟩
     ·refine .s _ _ _ _ B hsp c0 e0 f0 Z3 (by simpa using hcap) ?_ ?_ ?_
      ·intro p a o;rcases J p a o with⟨rfl,rfl⟩|⟨e,o⟩
       ·simpa using hz p row hi
       ·exact hz p a o
      ·intro p a j v o q;rcases r p a j v o q with⟨rfl,rfl,rfl⟩|⟨_,l,g1,A⟩
       ·obtain⟨y,g1,A⟩:=hv p row j u hi F;exact⟨y,g1,N'.val y A⟩
       ·exact hv p l j v g1 A
      ·intro p a j v o q;rcases r p a j v o q with⟨rfl,rfl,rfl⟩|⟨D,l,g1,A⟩
       ·exact N'.holds
       ·exact(hh p l j v g1 A).frame (K p l j v D g1 A)
     ·refine .s _ _ _ B hsp c1 e1 Y Z (by rw[N.same _ (dY Q) U];exact Q) (by simpa using M) hroom Z0 ?_;intro p a j v o q;rcases r p a j v o q with⟨rfl,rfl,rfl⟩|⟨D,l,g1,A⟩
      ·exact N'.own
      ·exact(R p l j v g1 A).frame (K p l j v D g1 A)
     ·intro y hy;simpa[VT]using hy
     ·intro b O hb;exact N.same b O fun P=>hb (lv hi F (C b P))
     ·intro b;have g1:=vX (u':=u') hi F b;have A:=Z1 b;rw[cJ,cJ,WD,WD];omega
     ·intro _;refine⟨rfl,?_⟩;rintro d1 z1 m ⟨k1,Z4,g1,A⟩;cases g1;exact⟨_,_,rfl,by simpa using A⟩
     ·simp only[getN];rw[Wp H];simp only[V9];rw[Wp I];exact Z2
structure Uh (cx:Cx)(D:DSt)(P P':List (DT×Value))(w w':World)(h:Nat)(b:Nat×Nat)(ts ts':List DT):Prop where
 at_:D[h]?=some (.box b ts)
 len:ts'.length=ts.length
 lies:Lies w' b ts'
 free:Free w' b ts.length
 holds:∀t∈ts',Holds w' t
 ownT:∀t∈ts',t.isOwn=true→OwnT w' t
 kind:∀t∈ts',bK cx (D.set h (.box b ts')) t
 cnt:∀x,(ts'.flatMap ownR).count x+aV P' x≤(ts.flatMap ownR).count x+aV P x
 keep:∀(c:Nat)(t:DT),ts[c]?=some t→t.isOwn=true→ts'[c]?=some t∨((∀s∈D,¬sg h c s)∧∀s∈D,∀st,¬qV h c st s)
 size:w.heap.size≤w'.heap.size
 same:∀x,x<w.heap.size→x≠b.1→w'.heap[x]?=w.heap[x]?
 os:w'.os=w.os
 tape:w'.tape=w.tape
 output:w'.output=w.output
 pend:∀p∈P',VT p.1 p.2∧Holds w' p.1∧(p.1.isOwn=true→OwnT w' p.1)∧(p.1.isOwn=false→∀x∈bl p.1,cx.far x)
theorem Inv.box_tree {cx:Cx}{D:DSt}{P:List (DT×Value)}{tm:Array Value}{w:World}(I:Inv cx D P tm w){h:Nat}{b:Nat×Nat}{ts:List DT}(hb:D[h]?=some (.box b ts))
  {a c:Nat} {t:DT} (hc:av D a c=some t) (d:t.isOwn=true):b.1∉bl t:=by
 intro f;obtain⟨s,g1,j,g3,g,g4⟩:=ce hc;by_cases e:a=h
 ·subst e;rw[hb]at g1;cases g1;simp only[av,hb,V9,aZ]at hc;have i:=I.once b.1;have k:(ownBl (.box b ts:DSl)).count b.1=1+(ts.flatMap ownR).count b.1:=by simp[ownBl,YB]
  have l:=bR ownBl (Sl.any:DSl) b.1 D a _ hb;have m:(ownBl (Sl.any:DSl)).count b.1=0:=rfl;have n:0<(ts.flatMap ownR).count b.1:=Wz.2 (Wq.2 ⟨t,Wd hc,by simp[ownR,d,f]⟩);unfold bv at i;omega
 ·exact I.apart e g1 hb (g4 d _ f) (by simp[ownBl])
theorem Inv.box_may {cx:Cx}{D:DSt}{P:List (DT×Value)}{tm:Array Value}{w:World}(I:Inv cx D P tm w){h:Nat}{b:Nat×Nat}{ts:List DT}(hb:D[h]?=some (.box b ts)):cx.may b.1∧b.1<w.heap.size :=
 I.bnd b.1 (by have:=cI (b:=b.1) (Wd hb) (by simp[ownBl]);omega)
theorem Inv.box_root {cx:Cx}{D:DSt}{P:List (DT×Value)}{tm:Array Value}{w:World}(I:Inv cx D P tm w){h:Nat}{b:Nat×Nat}{ts:List DT}(hb:D[h]?=some (.box b ts))
  {u:Nat} {s:DSl} (hs:D[u]?=some s) {v:DT} (hv:v∈aj s):b.1∉bl v:=by
 intro j;have c:=(I.box_may hb).1;have m:=I.kind s (Wd hs);have lent:∀n o,(∃t',av D n o=some t'∧t'.isOwn=true∧b.1∈bl t')→False:=fun n o ⟨t',g1,q,g3⟩=>I.box_tree hb g1 q g3
 have a:bK cx D v→(v.isOwn=true→False)→False:=by
  intro t g;cases v with
  |v x=>simp[bl]at j
  |any=>simp[bl]at j
  |s k d z r =>
   cases k with
   |far=>exact Cx.far_not (t _ j) c
   |lent n o F =>obtain⟨t',g1,q,g3,G⟩:=t;exact lent n o ⟨t',g1,q,g3 _ j⟩
   |own=>exact g rfl
 have home:∀cs,aZ s=some cs→v.isOwn=true→False:=by intro cs y g;rw[(kS y).1]at hv;obtain⟨i,hi⟩:=Wm hv;exact lent u i ⟨v,by simp[av,hs,y,hi],g,j⟩
 cases s with
 |one x=>exact a (m v hv) (home _ rfl)
 |agg x=>exact a (m v hv) (home _ rfl)
 |box C x=>exact a (m v hv) (home _ rfl)
 |tup rs =>
  refine a (m v hv) fun g=>?_
  have A:b.1∈ownBl (.tup rs:DSl):=by simp only[aj,Wq]at hv;obtain⟨p,B,hv⟩:=hv;simp only[ownBl,Wq];exact⟨p,B,v,hv,by simp[ownR,g,j]⟩
  by_cases e:u=h
  ·subst e;rw[hs]at hb;cases hb
  ·exact I.apart e hs hb A (by simp[ownBl])
 |im k C ts off =>
  have l:pD cx D k C.1 ts:=m;cases k with
  |own=>exact l
  |far=>exact Cx.far_not (l.2 v hv _ j) c
  |lent n o F =>obtain⟨t',g1,q,g3,g4⟩:=l;exact lent n o ⟨t',g1,q,g4 v hv _ j⟩
 |fni f caps =>simp only[aj,Wq]at hv;obtain⟨p,B,hv⟩:=hv;exact Cx.far_not ((m p B).2 v hv _ j) c
 |any=>simp[aj]at hv
 |al=>simp[aj]at hv
 |pe=>simp[aj]at hv
 |pb=>simp[aj]at hv
 |clo=>simp[aj]at hv
theorem Inv.boxSet {cx:Cx}{D:DSt}{P P':List (DT×Value)}{tm:Array Value}{w w':World}(I:Inv cx D P tm w){h:Nat}{b:Nat×Nat}{ts ts':List DT}(B:Uh cx D P P' w w' h b ts ts'):
  Inv cx (D.set h (.box b ts')) P' tm w':=by
 have hb:=B.at_;have A:h<D.length:=by
  rcases Wl h D.length with g|g
  ·exact g
  ·rw[Wh g]at hb;cases hb
 have m:∀j o,j≠h→av (D.set h (.box b ts')) j o=av D j o:=fun j o e=>na e
 have q:∀c,av (D.set h (.box b ts')) h c=ts'[c]?:=by intro c;unfold av;rw[Wp A];rfl
 have y:∀c,av D h c=ts[c]?:=by intro c;unfold av;rw[hb];rfl
 have U:∀x,bv (D.set h (.box b ts')) x+(ts.flatMap ownR).count x=bv D x+(ts'.flatMap ownR).count x:=by intro x;have V:=bR ownBl (.box b ts') x D h _ hb;simp only[ownBl,Xn]at V;unfold bv;omega
 have le:∀x,bv (D.set h (.box b ts')) x+aV P' x≤bv D x+aV P x:=by intro x;have V:=U x;have h2:=B.cnt x;omega
 have fr:∀{u:Nat}{s:DSl}{v:DT},D[u]?=some s→v∈aj s→∀x∈bl v,x<w.heap.size→w'.heap[x]?=w.heap[x]?:=by intro u s v hs hv x O A;refine B.same x A ?_;rintro rfl;exact I.box_root hb hs hv O
 have lies:∀{Y:Nat×Nat}{l:List DT},Y.1≠b.1→Lies w Y l→Lies w' Y l:=by rintro Y l J ⟨o,e',f,V,h2⟩;exact⟨o,e',f,by rw[B.same _ (dY V) J];exact V,h2⟩
 refine⟨by have:=I.size;simpa using this,?_,?_,?_,B.pend,fun x=>W6 (le x) (I.once x),?_,?_⟩
 ·intro u s hs;by_cases K:u=h
  ·subst K;rw[Wp A]at hs;cases hs;exact I.val u _ hb
  ·rw[Ws (fun g=>K g.symm)]at hs;have L:=Wd hs;have hv:=I.val u s hs;have nd:∀j o st d z n,qV j o st s→e8 D j o st d z n→e8 (D.set h (.box b ts')) j o st d z n:=by
    rintro j o st d z n hsp ⟨t,C,F,R⟩;by_cases e:j=h
    ·subst e;rw[y]at C;rcases B.keep o t C F with g|⟨_,g⟩
     ·exact⟨t,by rw[q];exact g,F,R⟩
     ·exact absurd hsp (g s L st)
    ·exact⟨t,by rw[m j o e];exact C,F,R⟩
   have bx:∀(j:Nat)(H:Nat×Nat)(l:List DT),D[j]?=some (.box H l)→∃l',(D.set h (.box b ts'))[j]?=some (.box H l'):=by
    intro j H l Q;by_cases e:j=h
    ·subst e;rw[hb]at Q;cases Q;exact⟨ts',Wp A⟩
    ·exact⟨l,by rw[Ws (fun g=>e g.symm)];exact Q⟩
   cases s with
   |al j c st lo len =>obtain⟨d,z,n,a,C,F⟩:=hv;exact⟨d,z,n,a,nd j c st d z n ⟨rfl,rfl,rfl⟩ C,F⟩
   |pe j c st i off =>obtain⟨d,z,n,C,F⟩:=hv;exact⟨d,z,n,nd j c st d z n ⟨rfl,rfl,rfl⟩ C,F⟩
   |pb j off =>obtain⟨H,l,C,F⟩:=hv;obtain⟨l',R⟩:=bx _ _ _ C;exact⟨H,l',R,F⟩
   |clo f hs =>obtain⟨bs,C,F,R⟩:=hv;exact⟨bs,C,fun i h b hi hb=>by obtain⟨l,k4⟩:=F i h b hi hb;exact bx _ _ _ k4,R⟩
   |_=>exact hv
 ·intro s hs;obtain⟨u,hu⟩:=Wm hs;by_cases K:u=h
  ·subst K;rw[Wp A]at hu;cases hu;exact⟨B.holds,B.ownT,B.lies,by rw[B.len];exact B.free⟩
  ·rw[Ws (fun g=>K g.symm)]at hu;have W:=I.mem s (Wd hu);have G:=I.kind s (Wd hu);refine⟨fun v hv=>(W.1 v hv).frame (fr hu hv),fun v hv ho=>?_,?_⟩
   ·have Z0:v∈aj s:=by cases s<;>simp_all[rootsO,aj]
    exact(W.2.1 v hv ho).frame (fr hu Z0)
   ·cases s with
    |box H l =>
     have J:H.1≠b.1:=fun g=>I.apart K hu hb (b:=b.1) (by simp[ownBl,g]) (by simp[ownBl])
     obtain⟨C,F⟩:=W.2.2;exact⟨lies J C,fun o e' lo hi g1=>by rw[B.same _ C.lt J]at g1;exact F o e' lo hi g1⟩
    |im k H l off =>
     refine lies ?_ W.2.2;intro M;cases k with
     |own=>exact G
     |far=>exact Cx.far_not G.1 (by rw[M];exact(I.box_may hb).1)
     |lent j o Z =>obtain⟨S,g1,N,g3,g4⟩:=G;rw[M]at g3;exact I.box_tree hb g1 N g3
    |fni f caps=>exact fun p hp=>lies (fun M=>Cx.far_not (G p hp).1 (by rw[M];exact(I.box_may hb).1)) (W.2.2 p hp)
    |_=>trivial
 ·intro s hs;obtain⟨u,hu⟩:=Wm hs;by_cases K:u=h
  ·subst K;rw[Wp A]at hu;cases hu;exact B.kind
  ·rw[Ws (fun g=>K g.symm)]at hu;have L:=Wd hu;have G:=I.kind s L;have cc:∀j o t,sg j o s→av D j o=some t→t.isOwn=true→av (D.set h (.box b ts')) j o=some t:=by
    intro j o t hn g1 N;by_cases e:j=h
    ·subst e;rw[y]at g1;rcases B.keep o t g1 N with g|⟨g,_⟩
     ·rw[q];exact g
     ·exact absurd hn (g s L)
    ·rw[m j o e];exact g1
   have kt:∀v∈rootsO s,bK cx D v→bK cx (D.set h (.box b ts')) v:=by
    intro v hv X;cases v with
    |v x=>trivial
    |any=>trivial
    |s k d z r =>
     cases k with
     |own=>trivial
     |far=>exact X
     |lent j o Z =>obtain⟨S,g1,N,g3⟩:=X;exact⟨S,cc j o S (.inr ⟨Z,d,z,r,hv⟩) g1 N,N,g3⟩
   cases s with
   |im k H l off =>
    cases k with
    |own=>exact G
    |far=>exact G
    |lent j o Z =>obtain⟨S,g1,N,g3⟩:=G;exact⟨S,cc j o S (.inl ⟨Z,H,l,off,rfl⟩) g1 N,N,g3⟩
   |fni f caps=>exact G
   |any=>exact fun v hv=>by simp[aj]at hv
   |al=>exact fun v hv=>by simp[aj]at hv
   |pe=>exact fun v hv=>by simp[aj]at hv
   |pb=>exact fun v hv=>by simp[aj]at hv
   |clo=>exact fun v hv=>by simp[aj]at hv
   |one x=>exact fun v hv=>kt v hv (G v hv)
   |agg x=>exact fun v hv=>kt v hv (G v hv)
   |box b x=>exact fun v hv=>kt v hv (G v hv)
   |tup x=>exact fun v hv=>kt v hv (G v hv)
 ·intro x O;have:=I.bnd x (WQ O (le x));exact⟨this.1,WQ this.2 B.size⟩
 ·refine⟨B.os.trans I.frame.os,B.tape.trans I.frame.tape,B.output.trans I.frame.output,W6 I.frame.size B.size,fun x O=>?_⟩;rw[B.same x (WQ O.1 I.frame.size) (fun g=>Cx.far_not O (by rw[g];exact(I.box_may hb).1))];exact I.frame.same x O
structure Got (cx:Cx)(D:DSt)(w:World)(P:List (DT×Value))(ts:List DT)(ys:List Value):Prop where
 v:VCells ts ys
 holds:∀t∈ts,Holds w t
 own:∀t∈ts,t.isOwn=true→OwnT w t
 kind:∀t∈ts,bK cx D t
 cnt:∀b,(ts.flatMap ownR).count b≤aV P b
section
variable  {δ β : Type}
def T.noLent:T δ→Bool| .s (.lent _ _ _) _ _ _=>false|_=>true
def cellsCopy (M:Mk δ β)(D:St δ β)(x:Operand):Option (Bool×List (T δ)):=
 match opd M.nil D x with
 |some (.one t)=>some (false,[t])
 |some (.agg ts)=>some (true,ts)
 |some (.al h c st lo len)=>
  if lo=0∨0<len then
   match cX D h c st with
   |some (.s _ d z rows)=>some (false,[.s (.lent h c false) (M.win d lo z) z ((rows.drop lo).take len)])
   |_=>none
  else none
 |_=>none
def cellsTake (M:Mk δ β)(D:St δ β)(x:Operand):Option (Bool×List (T δ)×St δ β):=
 match x with
 | .tmp t =>
  match D[t]? with
  |some (.one u)=>if u.isOwn then some (false,[u],bc t D)else none
  |some (.agg ts)=>if ts.all T.noLent then some (true,ts,bc t D)else none
  |some (.al h c st lo len)=>
   if lo=0∨0<len then
    match cX D h c st with
    |some (.s .own d z rows)=>(dL (fun _=>some .any) (St.dead (dm h c) (qHC h c) D) h c st).map fun D'=>(false,[.s .own (M.win d lo z) z ((rows.drop lo).take len)],D')
    |_=>none
   else none
  |_=>none
 |_=>none
def cellsOf (M:Mk δ β)(D:St δ β)(x:Operand)(tk:Bool):Option (Bool×List (T δ)×St δ β):=if tk then cellsTake M D x else(cellsCopy M D x).map fun p=>(p.1,p.2,D)
end
def co (g:Bool)(y:Value)(ys:List Value):Prop:=if g then y = .agg ys.toArray else ys=[y]
theorem VCells.one {t:DT}{y:Value}(h:VT t y):VCells [t] [y]:=by
 refine⟨rfl,fun i u v hi hv=>?_⟩;cases i with
 |zero=>simp at hi hv;subst hi;subst hv;exact h
 |succ i=>simp at hi
theorem DB {k:Kd}{d:Dec}{z lo len cap:Nat}{a:Option Addr}{rows:List (List DT)}(c:lo+len≤rows.length)(hcap:rows.length≤d.cap)(hs:d.sp=none)(hc:cap=d.cap-lo)
  (i:lo<d.cap→a=some ⟨d.b,d.o+lo*z,none⟩) (e:lo=0→a=if d.nil then none else some ⟨d.b,d.o,none⟩) (j:d.nil=true→rows=[]) (h:lo=0∨0<len):
  VT (.s k (mkD.win d lo z) z ((rows.drop lo).take len)) (.slice a len cap):=by
 have l:((rows.drop lo).take len).length=len:=by simp;omega
 show Value.slice a len cap = .slice (mkD.win d lo z).addr _ _;rw[Dec.addr_none (d:=mkD.win d lo z) (by simpa[mkD]using hs),l,hc];simp only[mkD];congr 1;by_cases g:lo=0
 ·rw[e g,g];simp
 ·have f:lo<d.cap:=by omega
  rw[i f];have:d.nil=false:=by
   cases hd:d.nil with
   |false=>rfl
   |true=>have:=j hd;rw[this]at c;simp at c;omega
  simp only[this,WC,W2];rw[Wo (by omega)]
theorem Holds.nilrows {w:World}{k:Kd}{d:Dec}{z:Nat}{rows:List (List DT)}(h:Holds w (.s k d z rows))(a:d.nil=true):rows=[]:=by
 cases h with
 |e=>rfl
 |s _ _ _ _ h _=>rw[a]at h;cases h
theorem Inv.cellsCopy {cx:Cx}{D:DSt}{s:List (DT×Value)}{a:Act}{w:World}(I:Inv cx D s a.tmps w){x:Operand}{g:Bool}{ts:List DT}(e:cellsCopy mkD D x=some (g,ts)):
  ∃ys,Got cx D w [] ts ys∧co g (a.eval x) ys:=by
 unfold Am.cellsCopy at e;split at e
 ·rename_i t h;cases e;have i:=I.opd h;refine⟨[a.eval x],⟨.one i.val,fun u f=>i.mem.1 u (by simpa[aj]using f),fun u f m=>i.mem.2.1 u (by simpa[rootsO]using f) m,fun u f=>i.kind u (by simpa[aj]using f),fun b=>?_⟩,rfl⟩;have:=i.noown;simp only[ownBl]at this;simp[this]
 ·rename_i us h;cases e;have i:=I.opd h;obtain⟨cs,v,y⟩:=i.val;refine⟨cs.toList,⟨y,i.mem.1,i.mem.2.1,i.kind,fun b=>?_⟩,by simp[co,v]⟩;have:=i.noown;simp only[ownBl]at this;simp[this]
 ·rename_i h c st lo len hs;split at e
  ·rename_i j;split at e
   ·rename_i k d z rows o;cases e;have i:=I.opd hs;obtain⟨J,K,n,ad,l,A,B,C,p⟩:=i.val;obtain⟨t,L,q,g1,F,g3,g4,r,G⟩:=I.node l;simp only[cX,g1,V9]at o;rw[g3]at o;cases o;refine⟨[a.eval x],⟨.one ?_,fun u f=>?_,fun u f m=>?_,fun u f=>?_,fun b=>?_⟩,rfl⟩
    ·rw[B];exact DB (by omega) r.cap G.sp rfl C p r.nilrows j
    ·simp at f;subst f;exact vd (r.win lo len (by omega))
    ·simp at f;subst f;cases m
    ·simp at f;subst f;exact⟨t,g1,F,fun x H=>wM st g3 x (by have:=Jh H;simp only[cJ]at this ⊢;exact this),fun h=>by cases h⟩
    ·simp[ownR,T.isOwn]
   ·cases e
  ·cases e
 ·cases e
theorem oj {p:Nat→Nat→Bool}{q:Nat→Nat→Bool→Bool}{h c:Nat}(y:p h c=true){D:DSt}:∀s∈St.dead p q D,¬sg h c s∧((∀b,q h c b=true)→∀st,¬qV h c st s)∧((q h c true=true)→∀st,qV h c st s→st=[]):=by
 intro s hs;obtain⟨u,L,rfl⟩:=Wx.1 hs;have A:∀(v:DT) a d z r,v.dead p ≠ .s (.lent h c a) d z r:=by
  intro v a d z r;cases v with
  |v x=>simp[T.dead]
  |any=>simp[T.dead]
  |s k M N O =>
   cases k with
   |own=>simp[T.dead]
   |far=>simp[T.dead]
   |lent m n B =>
    simp only[T.dead];by_cases e:p m n=true
    ·rw[Wa e];simp
    ·rw[Wo e];intro g;cases g;exact e y
 have ts:∀(l:List DT) a d z r,(.s (.lent h c a) d z r:DT)∉l.map (T.dead p):=by intro l a d z r C;obtain⟨v,_,hv⟩:=Wx.1 C;exact A v a d z r hv
 have none:∀(s:DSl),(∀k b l off,s ≠ .im k b l off)→rootsO s=[]→¬sg h c s:=by
  rintro s F G (⟨a,b,t,o,g⟩|⟨a,d,z,r,g⟩)
  ·exact F _ _ _ _ g
  ·rw[G]at g;cases g
 cases u with
 |any=>exact⟨none _ (by simp[Sl.dead]) rfl,fun _ st g=>g.elim,fun _ st g=>g.elim⟩
 |one v=>exact⟨by rintro(⟨a,b,t,o,g⟩|⟨a,d,z,r,g⟩);(· simp[Sl.dead]at g);(· exact ts [v] a d z r g),fun _ st g=>g.elim,fun _ st g=>g.elim⟩
 |agg l=>exact⟨by rintro(⟨a,b,t,o,g⟩|⟨a,d,z,r,g⟩);(· simp[Sl.dead]at g);(· exact ts l a d z r g),fun _ st g=>g.elim,fun _ st g=>g.elim⟩
 |box b l=>exact⟨by rintro(⟨a,b,t,o,g⟩|⟨a,d,z,r,g⟩);(· simp[Sl.dead]at g);(· exact ts l a d z r g),fun _ st g=>g.elim,fun _ st g=>g.elim⟩
 |tup rs =>
  refine⟨?_,fun _ st g=>g.elim,fun _ st g=>g.elim⟩;rintro(⟨a,b,t,o,g⟩|⟨a,d,z,r,g⟩)
  ·simp[Sl.dead]at g
  ·simp only[Sl.dead,rootsO,Wq,Wx]at g;obtain⟨p,⟨H,y,rfl⟩,g⟩:=g;exact ts H.2 a d z r (by simpa using g)
 |al m n j lo len =>
  simp only[Sl.dead];by_cases e:q m n (!j.isEmpty)=true
  ·rw[Wa e];exact⟨none _ (by simp) rfl,fun _ st g=>g.elim,fun _ st g=>g.elim⟩
  ·rw[Wo e];refine⟨none _ (by simp) rfl,fun w st g=>e (by rw[g.1,g.2.1];exact w _),fun w st g=>?_⟩;rw[g.1,g.2.1]at e;rw[←g.2.2];cases j with
   |nil=>rfl
   |cons x l=>exact absurd w e
 |pe m n j i off =>
  simp only[Sl.dead];by_cases e:q m n (!j.isEmpty)=true
  ·rw[Wa e];exact⟨none _ (by simp) rfl,fun _ st g=>g.elim,fun _ st g=>g.elim⟩
  ·rw[Wo e];refine⟨none _ (by simp) rfl,fun w st g=>e (by rw[g.1,g.2.1];exact w _),fun w st g=>?_⟩;rw[g.1,g.2.1]at e;rw[←g.2.2];cases j with
   |nil=>rfl
   |cons x l=>exact absurd w e
 |pb m off=>exact⟨none _ (by simp[Sl.dead]) rfl,fun _ st g=>g.elim,fun _ st g=>g.elim⟩
 |clo f I=>exact⟨none _ (by simp[Sl.dead]) rfl,fun _ st g=>g.elim,fun _ st g=>g.elim⟩
 |fni f caps=>exact⟨none _ (by simp[Sl.dead]) rfl,fun _ st g=>g.elim,fun _ st g=>g.elim⟩
 |im k b l off =>
  simp only[Sl.dead];split
  ·rename_i m n J;by_cases e:p m n=true
   ·rw[Wa e];exact⟨none _ (by simp) rfl,fun _ st g=>g.elim,fun _ st g=>g.elim⟩
   ·rw[Wo e];refine⟨?_,fun _ st g=>g.elim,fun _ st g=>g.elim⟩;rintro(⟨a,b,t,o,g⟩|⟨a,d,z,r,g⟩)
    ·cases g;exact e y
    ·cases g
  ·rename_i K;refine⟨?_,fun _ st g=>g.elim,fun _ st g=>g.elim⟩;rintro(⟨a,b,t,o,g⟩|⟨a,d,z,r,g⟩)
   ·cases g;exact K _ _ _ rfl
   ·cases g
theorem tF {h c:Nat}{D:DSt}:∀s∈St.dead (dm h c) (qHC h c) D,¬sg h c s∧∀st,¬qV h c st s:=fun s hs =>⟨(oj (p:=dm h c) (q:=qHC h c) (by simp[dm]) s hs).1,(oj (p:=dm h c) (q:=qHC h c) (by simp[dm]) s hs).2.1 (fun b=>by simp[qHC])⟩
theorem oZ:∀(ts:List DT)(ys:List Value),ts.length=ys.length→∀b,aV (ts.zip ys) b=(ts.flatMap ownR).count b
 |[],_,_,b=>rfl
 |t::ts,[],h,b=>by simp at h
 |t::ts,y::ys,h,b=>by simp only[List.zip_cons_cons,ld,WA,WD];rw[oZ ts ys (by simpa using h) b]
theorem GM {α:Type}(f:α→List Nat)(b:Nat){l l':List α}(h:l.Sublist l'):(l.flatMap f).count b≤(l'.flatMap f).count b:=by
 induction h with
 |slnil=>exact WU _
 |cons a h c=>simp only[WA,WD];omega
 |cons_cons a h c=>simp only[WA,WD];omega
theorem uo {k k':Kd}{d:Dec}{z:Nat}(rows:List (List DT))(l n b:Nat):(bl (.s k (mkD.win d l z) z ((rows.drop l).take n))).count b≤(bl (.s k' d z rows)).count b:=by
 rw[cJ,cJ,WD,WD];have c:(((rows.drop l).take n).flatMap fun x=>x.flatMap bl).count b≤(rows.flatMap fun x=>x.flatMap bl).count b:=by exact GM _ b ((List.take_sublist _ _).trans (Yu _ _))
 have a:(if(mkD.win d l z).nil=true then []else [(mkD.win d l z).b])=(if d.nil=true then []else [d.b]):=rfl;rw[a];omega
theorem OwnT.win {w:World}{d:Dec}{z:Nat}{rows:List (List DT)}(h:OwnT w (.s .own d z rows))(l n:Nat)(m:l+n≤rows.length):
  OwnT w (.s .own (mkD.win d l z) z ((rows.drop l).take n)):=by
 cases h with
 |nil _ _ f hs hc =>simp;exact .nil _ _ (by simpa[mkD]using f) (by simpa[mkD]using hs) (by simp[mkD,hc])
 |s _ _ _ h hsp c e lo hi hb hcap hroom hf hh =>
  have a:∀(i:Nat)(row:List DT),((rows.drop l).take n)[i]?=some row→rows[l+i]?=some row:=by
   intro i row hi;rw[Xl]at hi;split at hi
   ·rw[Xa]at hi;exact hi
   ·cases hi
  have g:(mkD.win d l z).o+(mkD.win d l z).cap*z≤d.o+d.cap*z∧d.o≤(mkD.win d l z).o:=by
   simp only[mkD];split
   ·rename_i hc;rw[hc];simp
   ·rw[Nat.sub_mul];have:l*z≤d.cap*z:=Xq _ (by omega);omega
  refine .s _ _ _ (by simpa[mkD]using h) (by simpa[mkD]using hsp) c e lo hi (by simpa[mkD]using hb) (by simp[mkD];omega) (by omega) ?_ ?_
  ·intro x p q;exact hf x (by omega) (by omega)
  ·intro i row j t b k;exact hh _ row j t (a i row b) k
theorem Dh {D:DSt}{h c:Nat}{t t':DT}(hc:av D h c=some t):∃D',gE D h c t'=some D':=by unfold av at hc;simp only[Wb]at hc;obtain⟨cs,⟨s,hs,a⟩,_⟩:=hc;exact⟨D.set h (setCells (cs.set c t') s),by unfold gE;rw[hs];simp only[a,Wc]⟩
theorem Inv.bl_once {cx:Cx}{D:DSt}{P:List (DT×Value)}{tm:Array Value}{w:World}(I:Inv cx D P tm w){h c:Nat}{t:DT}(hc:av D h c=some t)(d:t.isOwn=true)(b:Nat):(bl t).count b≤1:=by
 unfold av at hc;simp only[Wb]at hc;obtain⟨cs,⟨s,hs,a⟩,e⟩:=hc;have i:=I.cells_once hs a b;have f:=bR ownR (T.any:DT) b cs c t e;have j:(ownR (T.any:DT)).count b=0:=rfl;have g:ownR t=bl t:=by simp[ownR,d]
 rw[g]at f;omega
theorem Inv.cellsTakeP {cx:Cx}{D:DSt}{B:List (DT×Value)}{a:Act}{w:World}(I:Inv cx D B a.tmps w){x:Operand}{g:Bool}{ts:List DT}{D':DSt}(e:cellsTake mkD D x=some (g,ts,D')):
  ∃ys P,Inv cx D' (P++B) a.tmps w∧Got cx D' w P ts ys∧co g (a.eval x) ys:=by
 unfold Am.cellsTake at e;split at e
 ·rename_i t;split at e
  ·rename_i u hu;split at e
   ·rename_i X;cases e;have hv:=I.val t _ hu;have J:=I.mem _ (Wd hu);have hT:=Inv.take I (P:=B) (cs:=[(u,a.tmps.getD t undef)]) hu (fun p hp=>by rw[Wk]at hp;subst hp;exact⟨by simp[rootsO],by simp[aj],hv⟩)
     (fun p hp h c K d z r g=>by simp at hp;subst hp;simp only at g;rw[g]at X;cases X) (fun b=>by rw[ld,cO];exact WU _) (by simp) (by simp)
    refine⟨[a.tmps.getD t undef],_,hT,⟨.one hv,fun v f=>by simp at f;subst f;exact J.1 _ (by simp[aj]),fun v f _=>by simp at f;subst f;exact J.2.1 _ (by simp[rootsO]) X,fun v f=>?_,fun b=>?_⟩,rfl⟩
    ·simp at f;subst f;cases v with
     |v x=>trivial
     |any=>trivial
     |s k d z r=>cases k<;>first|trivial|(simp[T.isOwn]at X)
    ·simp[aV]
   ·cases e
  ·rename_i us hu;split at e
   ·rename_i L;cases e;have hv:=I.val t _ hu;obtain⟨cs,Y,y⟩:=hv;have J:=I.mem _ (Wd hu);have hk:=I.kind _ (Wd hu);have M:∀v∈ts,∀h c K d z r,v ≠ .s (.lent h c K) d z r:=by intro v hv h c K d z r g;have:=Wt.1 L v hv;rw[g]at this;simp[T.noLent]at this
    have hT:=Inv.take I (cs:=ts.zip cs.toList) hu (fun p hp=>by obtain⟨i,hi⟩:=Wm hp;rw[Ya]at hi;exact⟨Wd hi.1,Wd hi.1,y.2 i _ _ hi.1 hi.2⟩)
     (fun p hp=>M p.1 (List.of_mem_zip hp).1) (fun b=>by rw[oZ _ _ y.1];exact WU _) (by simp) (by simp)
    refine⟨cs.toList,_,hT,⟨y,J.1,J.2.1,fun v hv=>?_,fun b=>?_⟩,by simp only[co,WN];exact Y⟩
    ·have Z0:=hk v hv;have:=M v hv;cases v with
     |v x=>trivial
     |any=>trivial
     |s k d z r =>
      cases k with
      |own=>trivial
      |far=>exact Z0
      |lent h c K=>exact absurd rfl (this h c K d z r)
    ·rw[oZ _ _ y.1];exact WU _
   ·cases e
  ·rename_i h c st lo len hu;split at e
   ·rename_i j;split at e
    ·rename_i d z rows hn;rw[We]at e;obtain⟨D2,C,e⟩:=e;cases e;have hv:=I.val t _ hu;obtain⟨d',z',n,ad,F,Z6,Y,ha,O⟩:=hv;obtain⟨t0,k1,Z1,g1,A,g3,g4,H,Z⟩:=I.node F;simp only[cX,g1,V9]at hn;rw[g3]at hn;cases hn;have I1:=I.dead (dm h c) (qHC h c);have Q:=it (p:=dm h c) (q:=qHC h c) g1 A;unfold dL at C;rw[Q,V9,Wb]at C;obtain⟨t',G,R⟩:=C;obtain⟨s0,Z7,l,Z2,S,U⟩:=ce g1;have V:=I.mem s0 l;have hN:NodeOk w w (.s .own d z rows) (.any:DT):=⟨.any,.any,fun _ h=>h.one,fun _ _ _=>rfl⟩
     obtain⟨N,hc,Z3,_⟩:=GA hN rfl st (V.1 t0 Z2) (V.2.1 t0 S A) (I.bl_once g1 A) g3 G;have m:t'.isOwn=true∨t' = .any:=by
      cases st with
      |nil=>right;cases g3;simp[gl]at G;exact G.symm
      |cons p st=>left;exact(Z3 (by simp)).1
     have W:∀b,(ownR t').count b+(bl (.s .own d z rows)).count b≤(ownR t0).count b:=by
      intro b;have h1:=hc b;have h0:(bl (.any:DT)).count b=0:=rfl;have h2:ownR t0=bl t0:=by simp[ownR,A]
      rw[h2];rcases m with h3|h3
      ·have:ownR t'=bl t':=by simp[ownR,h3]
       rw[this];omega
      ·subst h3;have:(ownR (.any:DT)).count b=0:=rfl;omega
     have IU:=I1.upd (P':=(.s .own (mkD.win d lo z) z ((rows.drop lo).take len),a.tmps.getD t undef)::B) (w':=w) R
      {at_:=Q,own:=A,holds:=N.holds,ownT:=fun _=>N.own,kind:=m,val:=N.val,
       cnt:=fun b=>by
        rw[ld];have h1:=W b;have h2:=uo (k := .own) (k' := .own) (d:=d) (z:=z) rows lo len b;have h3:ownR (.s .own (mkD.win d lo z) z ((rows.drop lo).take len):DT)=bl (.s .own (mkD.win d lo z) z ((rows.drop lo).take len)):=by simp[ownR,T.isOwn]
        rw[h3];split
        ·omega
        ·rename_i Z4;have hz:¬ 0<bv D b+aV B b:=fun q=>Z4 (I.bnd b q).2
         have h7:(ownR t0).count b=0:=by
          rcases W4 ((ownR t0).count b)with q|q
          ·exact q
          ·have h5:ownR t0=bl t0:=by simp[ownR,A]
           rw[h5]at q;have:=cI l (b:=b) (U A b (Wz.1 q));omega
         show(ownR t').count b+((bl (.s .own (mkD.win d lo z) z ((rows.drop lo).take len):DT)).count b+aV B b)≤1;omega,
       new:=fun b hb o=>by
        exfalso;rw[ld]at o;have hz:¬ 0<bv D b+aV B b:=fun q=>by have:=(I.bnd b q).2;omega
        have h1:=W b;have h2:=uo (k := .own) (k' := .own) (d:=d) (z:=z) rows lo len b;have h3:ownR (.s .own (mkD.win d lo z) z ((rows.drop lo).take len):DT)=bl (.s .own (mkD.win d lo z) z ((rows.drop lo).take len)):=by simp[ownR,T.isOwn]
        rw[h3]at o;have Z5:0<(ownR t').count b+((bl (.s .own (mkD.win d lo z) z ((rows.drop lo).take len):DT)).count b+aV B b):=o;have h6:0<(ownR t0).count b:=by omega
        have h7:=cI l (b:=b) (U A b (by have h5:ownR t0=bl t0:=(by simp[ownR,A]);rw[h5]at h6;exact Wz.1 h6));have:=(I.bnd b (by omega)).2;omega,
       hides:=fun s hs=>(tF s hs).1,
       speak:=fun s hs st hsp=>absurd hsp ((tF s hs).2 st),
       size:=WU _,same:=fun _ _ _=>rfl,os:=rfl,tape:=rfl,output:=rfl,
       pend:=fun p hp=>by
        rcases WE.1 hp with hp|hp
        case inr=>exact I.pend p hp
        subst hp;refine⟨?_,H.win lo len (by omega),fun _=>Z.win lo len (by omega),fun h=>by cases h⟩;show VT _ (a.tmps.getD t undef);rw[Y];exact DB (by omega) H.cap Z.sp rfl ha O H.nilrows j }
     refine⟨[a.tmps.getD t undef],[(.s .own (mkD.win d lo z) z ((rows.drop lo).take len),a.tmps.getD t undef)],IU,⟨.one ?_,fun v hv=>?_,fun v hv _=>?_,fun v hv=>?_,fun b=>?_⟩,rfl⟩
     ·rw[Y];exact DB (by omega) H.cap Z.sp rfl ha O H.nilrows j
     ·simp at hv;subst hv;exact H.win lo len (by omega)
     ·simp at hv;subst hv;exact Z.win lo len (by omega)
     ·simp at hv;subst hv;trivial
     ·simp[aV]
    ·cases e
   ·cases e
  ·cases e
 ·cases e
theorem Inv.cellsTake {cx:Cx}{D:DSt}{a:Act}{w:World}(I:Inv cx D [] a.tmps w){x:Operand}{g:Bool}{ts:List DT}{D':DSt}(e:cellsTake mkD D x=some (g,ts,D')):
  ∃ys P,Inv cx D' P a.tmps w∧Got cx D' w P ts ys∧co g (a.eval x) ys:=by
 obtain⟨ys,P,b,c,d⟩:=I.cellsTakeP e;rw[WG]at b;exact⟨ys,P,b,c,d⟩
section
variable  {δ β : Type}
def iR:Bool→List (T δ)→Option (Sl δ β)|true,ts=>some (.agg ts)|false,[t]=>some (.one t)|false,_=>none
end
theorem Got.grew {cx:Cx}{D:DSt}{w w':World}{P:List (DT×Value)}{ts:List DT}{ys:List Value}(h:Got cx D w P ts ys)(g:Grew w w'):Got cx D w' P ts ys :=
 ⟨h.v,fun t a=>(h.holds t a).frame fun b _ hb=>g.same b hb,fun t a c=>(h.own t a c).frame fun b _ hb=>g.same b hb,h.kind,h.cnt⟩
theorem RH {cx:Cx}{D:DSt}{w:World}{P:List (DT×Value)}{g:Bool}{ts:List DT}{ys:List Value}{y:Value}{s:DSl}(G:Got cx D w P ts ys)(hv:co g y ys)(hs:iR g ts=some s):
  VS D s y∧MemS w s∧eW cx D s∧∀b,(ownBl s).count b≤aV P b:=by
 unfold iR at hs;split at hs
 ·cases hs;refine⟨⟨ys.toArray,by simpa[co]using hv,by simpa using G.v⟩,⟨G.holds,G.own,trivial⟩,G.kind,G.cnt⟩
 ·rename_i t;cases hs;have c:ys=[y]:=by simpa[co]using hv
  subst c;refine⟨G.v.2 0 t y rfl rfl,⟨fun u a=>G.holds u (by simpa[aj]using a),fun u a=>G.own u (by simpa[rootsO]using a),trivial⟩,fun u a=>G.kind u (by simpa[aj]using a),fun b=>?_⟩;have:=G.cnt b;simpa[ownBl]using this
 ·cases hs
theorem Inv.putGot {cx:Cx}{D:DSt}{P:List (DT×Value)}{a:Act}{w:World}(I:Inv cx D P a.tmps w){g:Bool}{ts:List DT}{ys:List Value}{y:Value}{s:DSl}(G:Got cx D w P ts ys)
  (hv:co g y ys) (hs:iR g ts=some s) {dst:Option Nat} (b:∀t,dst=some t→t<D.length) (hd:dst.isSome=true):Inv cx (ba D dst s) [] (a.put dst y).tmps w:=by
 obtain⟨c,d,e,f⟩:=RH G hv hs;cases dst with
 |none=>cases hd
 |some t=>exact Inv.put (P:=P) (Q:=[]) (by rw[WG];exact I) (b t rfl) c d e f
theorem Inv.fresh {cx:Cx}{D:DSt}{P:List (DT×Value)}{tm:Array Value}{w w':World}(I:Inv cx D P tm w)(hs:w.heap.size<w'.heap.size):
  ∀b,0<(if b=w.heap.size then 1 else 0)→(if b=w.heap.size then 1 else 0)≤1∧bv D b+aV P b=0∧cx.may b∧b<w'.heap.size:=by
 intro b hb;split at hb
 ·rename_i e;subst e;refine⟨by simp,?_,.inl I.frame.size,hs⟩;rcases W4 (bv D w.heap.size+aV P w.heap.size)with g|g
  ·exact g
  ·have:=(I.bnd _ g).2;omega
 ·cases hb
theorem Inv.newBox {cx:Cx}{D:DSt}{P:List (DT×Value)}{a:Act}{w:World}(I:Inv cx D P a.tmps w){ts:List DT}{ys:List Value}(G:Got cx D w P ts ys)(e:TypeId)
  {t:Nat} (k:t<D.length):Inv cx (ba D (some t) (.box (w.heap.size,0) ts)) [] (a.put (some t) (.pointer (some ⟨w.heap.size,0,none⟩))).tmps (w.alloc (.cells ys.toArray e)):=by
 have g:=Grew.alloc w (.cells ys.toArray e);have l:=I.grew g;have d:(w.alloc (.cells ys.toArray e)).heap[w.heap.size]?=some (.cells ys.toArray e (0,0)):=by show(w.heap.push _)[w.heap.size]?=_;simp
 refine Inv.putF (P:=P) (Q:=[]) (by rw[WG];exact l) (fun b=>if b=w.heap.size then 1 else 0)
  (by rw[WG];exact I.fresh (by simp)) k rfl ⟨(G.grew g).holds,(G.grew g).own,?_⟩ (G.kind) ?_
 ·refine⟨⟨ys.toArray,e,(0,0),d,fun j u i=>?_⟩,fun c m lo hi hc x n o=>?_⟩
  ·have f:j<ys.length:=by
    rw[←G.v.1];rcases Wl j ts.length with g|g
    ·exact g
    ·rw[Wh g]at i;cases i
   exact⟨ys[j],by simp[f],G.v.2 j u _ i (Wg f)⟩
  ·simp only at hc;rw[d]at hc;cases hc;omega
 ·intro b;have:=G.cnt b;simp only[ownBl,Xn];split<;>rename_i hb
  ·simp at hb;subst hb;simp;omega
  ·have:¬b=w.heap.size:=fun h=>hb (by simp[h])
   simp[this];omega
theorem Inv.newRows {cx:Cx}{D:DSt}{P:List (DT×Value)}{a:Act}{w w':World}(I:Inv cx D P a.tmps w)(g:Grew w w')(hs:w.heap.size<w'.heap.size){d:Dec}{z:Nat}{rows:List (List DT)}
  (hd:d.b=w.heap.size∧d.nil=false) (e:Holds w' (.s .own d z rows)) (f:OwnT w' (.s .own d z rows))
  (hc:∀b,(rows.flatMap fun x=>x.flatMap bl).count b≤aV P b) {t:Nat} (i:t<D.length) {y:Value} (j:VT (.s .own d z rows) y):
  Inv cx (ba D (some t) (.one (.s .own d z rows))) [] (a.put (some t) y).tmps w':=by
 refine Inv.putF (P:=P) (Q:=[]) (by rw[WG];exact I.grew g) (fun b=>if b=w.heap.size then 1 else 0)
  (by rw[WG];exact I.fresh hs) i j ⟨fun u c=>by simp[aj]at c;subst c;exact e,fun u c _=>by simp[rootsO]at c;subst c;exact f,trivial⟩
  (fun u c=>by simp[aj]at c;subst c;trivial) ?_
 intro b;have l:=hc b;have k:ownBl (.one (.s .own d z rows):DSl)=d.b::rows.flatMap fun x=>x.flatMap bl:=by simp[ownBl,ownR,T.isOwn,cJ,hd.2]
 rw[k,Xn];split<;>rename_i hb
 ·simp at hb;subst hb;rw[hd.1]at *;simp;omega
 ·have:¬b=w.heap.size:=fun h=>hb (by rw[hd.1,h];simp)
  simp[this];omega
section
variable  {δ β : Type}
def T.inj (nil:δ):T Unit→T δ| .v x=>.v x| .any=>.any| .s k _ z _=>.s k nil z []
def aD {α:Type}(l:List α)(o:Nat)(new:List α):List α:=l.take o++new++l.drop (o+new.length)
end
theorem eP {α:Type}{l:List α}{o:Nat}{new:List α}(h:o+new.length≤l.length)(i:Nat):
  (aD l o new)[i]?=if i<o then l[i]? else if i<o+new.length then new[i-o]? else l[i]?:=by
 unfold aD;have b:(l.take o).length=o:=by simp;omega
 by_cases hi:i<o
 ·rw[Wa hi,XM,W1 (by omega),Xl,Wa hi]
 ·rw[Wo hi,XM,WZ (by omega),b];by_cases a:i<o+new.length
  ·rw[Wa a,W1 (by omega)]
  ·rw[Wo a,WZ (by omega),Xa];congr 1;omega
theorem lE {α:Type}{l:List α}{o:Nat}{new:List α}(h:o+new.length≤l.length):(aD l o new).length=l.length:=by unfold aD;simp;omega
theorem VCells.splice {ts ts':List DT}{ys b:List Value}(h:VCells ts ys)(e:VCells ts' b){o:Nat}(f:o+ts'.length≤ts.length):VCells (aD ts o ts') (aD ys o b):=by
 have g:=h.1;have j:=e.1;refine⟨by rw[lE f,lE (by omega)];exact g,fun i t y hi a=>?_⟩;rw[eP f]at hi;rw[eP (by omega)]at a;rw[←j]at a;split at hi
 ·rename_i c;rw[Wa c]at a;exact h.2 i t y hi a
 ·rename_i c;rw[Wo c]at a;split at hi
  ·rename_i d;rw[Wa d]at a;exact e.2 _ t y hi a
  ·rename_i d;rw[Wo d]at a;exact h.2 i t y hi a
theorem gR {α:Type}{l new:List α}{o:Nat}{x:α}(h:x∈aD l o new):x∈l∨x∈new:=by
 unfold aD at h;simp only[WF]at h;rcases h with(h|h)|h
 ·exact .inl (XK h)
 ·exact .inr h
 ·exact .inl (Xw h)
theorem pQ {α:Type}(f:α→List Nat)(l new:List α)(o b:Nat):((aD l o new).flatMap f).count b≤(l.flatMap f).count b+(new.flatMap f).count b:=by
 unfold aD;simp only[Xt,WD];have h:((l.take o).flatMap f).count b+((l.drop (o+new.length)).flatMap f).count b≤(l.flatMap f).count b:=by
  have a:=GM f b (l:=l.take o++l.drop (o+new.length)) (l':=l) (by
   conv=>rhs;rw[←List.take_append_drop o l]
   refine List.Sublist.append_left ?_ _;rw[←List.drop_drop];exact Yu _ _)
  simpa[Xt,WD]using a
 omega
theorem GV:∀(a:List Value)(k:Nat)(off:Nat)(cells:Array Value),off+k+a.length≤cells.size →
  ((a.zipIdx k).foldl (fun(cs:Array Value)(p:Value×Nat)=>cs.setIfInBounds (off+p.2) p.1) cells).toList=aD cells.toList (off+k) a
 |[],k,off,cells,h=>by simp[aD]
 |v::a,k,off,cells,h=>by
  simp only[List.zipIdx_cons,XD];simp only[WL]at h;rw[GV a (k+1) off _ (by simp;omega)];apply XC;intro i;rw[eP (by simp;omega),eP (by simp;omega)];simp only[YQ,WL];by_cases b:i<off+k
  ·rw[Wa (show i<off+(k+1) by omega),Wa b,Ws (by omega)]
  ·by_cases d:i=off+k
   ·subst d;rw[Wa (show off+k<off+(k+1) by omega),Wo b,Wa (show off+k<off+k+(a.length+1) by omega),
     Wp (by simp;omega)]
    simp
   ·by_cases c:i<off+k+(a.length+1)
    ·rw[Wo (show ¬i<off+(k+1) by omega),Wa (show i<off+(k+1)+a.length by omega),Wo b,Wa c];obtain⟨j,e⟩:∃j,i-(off+k)=j+1:=⟨i-(off+k)-1,by omega⟩
     rw[e,X4];congr 1;omega
    ·rw[Wo (show ¬i<off+(k+1) by omega),Wo (show ¬i<off+(k+1)+a.length by omega),Wo b,Wo c,Ws (by omega)]
theorem iu (v:Array Value)(off:Nat)(cells:Array Value)(h:off+v.size≤cells.size):
  (v.zipIdx.foldl (fun(cs:Array Value)(p:Value×Nat)=>cs.setIfInBounds (off+p.2) p.1) cells)=(aD cells.toList off v.toList).toArray:=by
 have:=GV v.toList 0 off cells (by simpa using h);apply Array.ext';rw[←Array.foldl_toList,Array.toList_zipIdx,this];simp
theorem lr {P:Program}{t:TypeId}{w:World}{cx:Cx}{D:DSt}{ys:List Value}(h:ys.all (·.oneCell')=true):Got cx D w [] ((ek P t ys).map (T.inj nilD)) ys:=by
 have one:∀n y,y.oneCell'=true→VT ((zT n y).inj nilD) y∧Holds w ((zT n y).inj nilD)∧OwnT w ((zT n y).inj nilD)∧bK cx D ((zT n y).inj nilD)∧bl ((zT n y).inj nilD)=[]:=by
  intro n y hy;unfold zT;split
  ·exact⟨rfl,.e _ _ _,.nil _ _ rfl rfl rfl,trivial,by simp[T.inj,cJ,nilD]⟩
  ·exact⟨⟨rfl,hy⟩,.v _,.v _,trivial,rfl⟩
 have all:∀u∈(ek P t ys).map (T.inj nilD),∃n,∃y∈ys,u=(zT n y).inj nilD:=by intro u a;simp only[Wx,ek,Xm]at a;obtain⟨u',⟨j,c,rfl⟩,rfl⟩:=a;exact⟨_,ys[j],Xs c,rfl⟩
 rw[Wt]at h;refine⟨⟨by simp[ek],fun i u y hi hy=>?_⟩,fun u a=>?_,fun u a _=>?_,fun u a=>?_,fun b=>?_⟩
 ·simp only[ek,Wr,XV,hy,Wc,WO]at hi;subst hi;exact(one _ y (h y (Wd hy))).1
 ·obtain⟨n,y,hy,rfl⟩:=all u a;exact(one n y (h y hy)).2.1
 ·obtain⟨n,y,hy,rfl⟩:=all u a;exact(one n y (h y hy)).2.2.1
 ·obtain⟨n,y,hy,rfl⟩:=all u a;exact(one n y (h y hy)).2.2.2.1
 ·have:((ek P t ys).map (T.inj nilD)).flatMap ownR=[]:=by rw[WB];intro u a;obtain⟨n,y,hy,rfl⟩:=all u a;have:=(one n y (h y hy)).2.2.2.2;unfold ownR;split<;>simp[this]
  rw[this];simp
theorem kY (b:Nat)(e:TypeId)(f:Nat×Nat):∀(a:List Value)(o:Nat)(w:World)(c:Array Value),w.heap[b]?=some (.cells c e f)→o+a.length≤c.size →
  (w.setCells b o a).heap[b]?=some (.cells (aD c.toList o a).toArray e f)∧(∀x,x≠b→(w.setCells b o a).heap[x]?=w.heap[x]?) ∧
   (w.setCells b o a).heap.size=w.heap.size∧(w.setCells b o a).os=w.os∧(w.setCells b o a).tape=w.tape∧(w.setCells b o a).output=w.output
 |[],o,w,c,h,g=>by refine⟨?_,fun _ _=>rfl,rfl,rfl,rfl,rfl⟩;rw[show w.setCells b o []=w from rfl,h];simp[aD]
 |v::a,o,w,c,h,g=>by
  simp only[WL]at g;have d:(w.setCell ⟨b,o,none⟩ v).heap[b]?=some (.cells (c.setIfInBounds o v) e f):=by simp[World.setCell,Yz,h]
  obtain⟨g1,m,g3,g4,n,p⟩:=kY b e f a (o+1) _ _ d (by simp;omega);have hs:w.setCells b o (v::a)=(w.setCell ⟨b,o,none⟩ v).setCells b (o+1) a:=rfl;rw[hs];refine⟨?_,fun x k=>?_,by rw[g3];simp[World.setCell],g4,n,p⟩
  ·rw[g1];congr 2;apply Array.ext';simp only[YQ];apply XC;intro i;rw[eP (by simp;omega),eP (by simp;omega)];simp only[WL];by_cases d:i<o
   ·rw[Wa (show i<o+1 by omega),Wa d,Ws (by omega)]
   ·by_cases q:i=o
    ·subst q;rw[Wa (show i<i+1 by omega),Wo d,Wa (show i<i+(a.length+1) by omega),Wp (by simp;omega)];simp
    ·by_cases l:i<o+(a.length+1)
     ·rw[Wo (show ¬i<o+1 by omega),Wa (show i<o+1+a.length by omega),Wo d,Wa l];obtain⟨j,r⟩:∃j,i-o=j+1:=⟨i-o-1,by omega⟩
      rw[r,X4];congr 1;omega
     ·rw[Wo (show ¬i<o+1 by omega),Wo (show ¬i<o+1+a.length by omega),Wo d,Wo l,Ws (by omega)]
  ·rw[m x k];simp only[World.setCell,Yz];rw[Wo (by simpa using fun h=>k h.symm)]
theorem EG {P:Program}{w:World}{b o:Nat}{c:Array Value}{e:TypeId}{lo hi:Nat}(h:w.heap[b]?=some (.cells c e (lo,hi))){ys:List Value}(i:o+ys.length≤c.size)
  (hf:∀x,o≤x→x<o+ys.length→¬(lo≤x∧x<hi)) (a:∀v∈ys,v.oneCell'=true):(storeCells ⟨b,o,none⟩ ys).run P w = .ok () (w.setCells b o ys):=by
 have:=run_storeCells_cells (P:=P) b o ys 0 w (fun j d=>by rw[uc h];simp;omega) (fun j d=>by
  simp only[World.frozen?,h,Nat.add_zero];have:=hf (o+j) (by omega) (by omega);simp only[Bool.and_eq_false_iff,Yq];rcases Wl (o+j) lo with g|g
  ·left;omega
  ·right;intro f;exact this ⟨g,f⟩) a
 simpa using this
theorem VCells.cells1 {ts:List DT}{ys:List Value}(h:VCells ts ys):∀v∈ys,v.oneCell'=true:=by
 intro v hv;obtain⟨i,hi⟩:=Wm hv;have a:i<ts.length:=by
  rw[h.1];rcases Wl i ys.length with g|g
  ·exact g
  ·rw[Wh g]at hi;cases hi
 exact(h.2 i _ v (Wg a) hi).one
theorem Cv {P:Program}{t:TypeId}{ti:TI}(a:m4 P t=some ti){w:World}{b o:Nat}{c:Array Value}{e:TypeId}{lo hi:Nat}(h:w.heap[b]?=some (.cells c e (lo,hi)))
  {ys:List Value} {y:Value} {g:Bool} (hv:co g y ys) (d:g=false→y.oneCell'=true) (f:ys.length=ti.size) (i:o+ys.length≤c.size)
  (hf:∀x,o≤x→x<o+ys.length→¬(lo≤x∧x<hi)) (j:∀v∈ys,v.oneCell'=true):
  (Instr.storeAt t (.pointer (some ⟨b,o,none⟩)) y).run P w = .ok () (w.setCells b o ys):=by
 have hc:y.cells=ys.toArray:=by
  cases g with
  |true=>simp only[co,WN]at hv;rw[hv];rfl
  |false =>simp only[co,WC,W2]at hv;subst hv;have:=d rfl;cases y<;>first|rfl|(simp[Value.oneCell']at this)
 have k:=EG (P:=P) h i hf j;simp only[Instr.storeAt,Instr.sureAddr,storeVar,Sem.run_bind,Sem.run_pure,Result.andThen_ok,hc,md a];simp[f,k]
section
open Go.ChangeShapes Go.Deep
mutual
inductive Ty where|bool|int (k:IntKind)|str|slice (e:Ty)|struct (fs:Fs)
inductive Fs where|nil|cons (t:Ty) (r:Fs)
end
mutual
def Ty.size:Ty→Nat| .struct fs=>fs.size|_=>1
def Fs.size:Fs→Nat| .nil=>0| .cons t r=>t.size+r.size
end
mutual
def Ty.ok (P:Program):Ty→TypeId→Bool
 | .bool,t=>match P.underlying t with|some .bool=>true|_=>false
 | .int k,t=>match P.underlying t with|some (.int k')=>decide (k'=k)|_=>false
 | .str,t=>match P.underlying t with|some .string=>true|_=>false
 | .slice e,t=>match P.underlying t with|some (.slice u)=>Ty.ok P e u&&P.cellsOf u==e.size&&e.size != 0|_=>false
 | .struct fs,t=>match P.underlying t with|some (.struct a)=>Fs.ok P fs a.toList 0&&P.cellsOf t==fs.size|_=>false
def Fs.ok (P:Program):Fs→List Field→Nat→Bool| .nil,[],_=>true| .cons t r,f::fs,off=>f.offset==off&&P.cellsOf f.type==t.size&&Ty.ok P t f.type&&Fs.ok P r fs (off+t.size)|_,_,_=>false
end
mutual
def Shape {δ:Type}:Ty→List (T δ)→Prop| .bool,ts=>∃b,ts=[.v (.bool b)]| .int k,ts=>∃n,ts=[.v (.int k n)]∧(Lit.int k n).wf=true| .str,ts=>∃s,ts=[.v (.string s)]∧s.size≤maxLen| .slice e,ts=>∃d rows,ts=[.s .far d e.size rows]∧rows.length≤maxLen∧∀r∈rows,Shape e r| .struct fs,ts=>ShapeF fs ts
def ShapeF {δ:Type}:Fs→List (T δ)→Prop| .nil,ts=>ts=[]| .cons t r,ts=>∃xs ys,ts=xs++ys∧Shape t xs∧ShapeF r ys
end
structure Reads (w:World)(ts:List DT)(cs:List Value):Prop where
 cells:VCells ts cs
 holds:∀u∈ts,Holds w u
 far:∀u∈ts,u.isOwn=false∧∀b∈bl u,b<w.heap.size
theorem Reads.nil (w:World):Reads w [] []:=⟨⟨rfl,fun i t y h=>by simp at h⟩,fun u h=>by simp at h,fun u h=>by simp at h⟩
theorem Reads.append {w:World}{ts us:List DT}{cs b:List Value}(h:Reads w ts cs)(g:Reads w us b):Reads w (ts++us) (cs++b):=by
 refine⟨⟨by simp[h.cells.1,g.cells.1],fun i t y hi a=>?_⟩,fun u hu=>?_,fun u hu=>?_⟩
 ·rcases Wl i ts.length with hl|hl
  ·rw[W1 hl]at hi;rw[W1 (by rw[←h.cells.1];exact hl)]at a;exact h.cells.2 i t y hi a
  ·rw[WZ hl]at hi;rw[WZ (by rw[←h.cells.1];exact hl), ←h.cells.1]at a;exact g.cells.2 _ t y hi a
 ·rcases WF.1 hu with hu|hu
  ·exact h.holds u hu
  ·exact g.holds u hu
 ·rcases WF.1 hu with hu|hu
  ·exact h.far u hu
  ·exact g.far u hu
theorem Reads.one {w:World}{t:DT}{y:Value}(h:VT t y)(hh:Holds w t)(c:t.isOwn=false)(hb:∀b∈bl t,b<w.heap.size):Reads w [t] [y]:=
 ⟨.one h,fun u a=>by simp at a;subst a;exact hh,fun u a=>by simp at a;subst a;exact⟨c,hb⟩⟩
theorem Reads.val {w:World}{x:Value}(h:x.oneCell'=true):Reads w [.v x] [x]:= .one ⟨rfl,h⟩ (.v x) rfl (fun b hb=>by simp[bl]at hb)
section
variable  {H : Type}{enc : TypeId × Value → H}{P : Program}{w : World}
mutual
theorem Ty.open:∀(ty:Ty)(n:Nat)(t:TypeId)(cs:List Value)(x:DataW H×List MemPlace),Ty.ok P ty t=true→DataW.trod enc P w 0 (fun _=>true) true n t cs=some x →
  ∃ts,Reads w ts cs∧Shape ty ts∧cs.length=ty.size
 | .bool,0,t,cs,x,d,h=>by simp[DataW.trod]at h
 | .bool,n+1,t,cs,x,d,h=>by
  unfold Ty.ok at d;split at d<;>try cases d
  rename_i p;unfold DataW.trod at h;rw[p]at h;split at h<;>simp_all;rename_i b;exact⟨[.v (.bool b)],.val rfl,⟨b,rfl⟩,rfl⟩
 | .int k,0,t,cs,x,d,h=>by simp[DataW.trod]at h
 | .int k,n+1,t,cs,x,d,h=>by
  unfold Ty.ok at d;split at d<;>try cases d
  rename_i k' p;simp at d;subst d;unfold DataW.trod at h;rw[p]at h;split at h<;>simp_all;rename_i k0 _ m _;exact⟨[.v (.int k0 m)],.val rfl,⟨m,rfl,h.1.2⟩,rfl⟩
 | .str,0,t,cs,x,d,h=>by simp[DataW.trod]at h
 | .str,n+1,t,cs,x,d,h=>by
  unfold Ty.ok at d;split at d<;>try cases d
  rename_i p;unfold DataW.trod at h;rw[p]at h;split at h<;>simp_all;rename_i s;exact⟨[.v (.string s)],.val rfl,⟨s,rfl,h.1⟩,rfl⟩
 | .slice e,n,t,cs,x,d,h=>by
  unfold Ty.ok at d;split at d<;>try cases d
  rename_i u p;simp only[Ww,XW,Y7,ne_eq]at d;obtain⟨⟨d,hc⟩,hz⟩:=d;rcases open_slice p h with⟨rfl,_⟩|⟨a,len,cap,m,n',D,Pl,rfl,_,N,hm,F,_,hx⟩
  ·refine⟨[.s .far ⟨0,0,0,true,none⟩ e.size []],.one (by rfl) (.e _ _ _) rfl (fun b hb=>by simp[cJ]at hb),⟨_,[],rfl,by simp,fun r G=>by simp at G⟩,rfl⟩
  ·simp only[WN]at F;subst F;have O:∀i,i<len→∃row,(∃A,w.cells? 0 (a.add (i*e.size)) e.size=some A∧Reads w row A)∧Shape e row∧row.length=e.size:=by intro i hi;obtain⟨A,B,I⟩:=hx i (by omega);obtain⟨row,Z,h4,h5⟩:=Ty.open e n' u A _ d I;exact⟨row,⟨A,by rw[←hc];exact B,Z⟩,h4,by rw[Z.cells.1,h5]⟩
   obtain⟨R,C⟩:=choose_lt O;by_cases h0:len=0
   ·subst h0;exact⟨[.s .far ⟨0,0,m,true,some a⟩ e.size []],.one rfl (.e _ _ _) rfl (fun b hb=>by simp[cJ]at hb),⟨_,_,rfl,by simp,fun r G=>by simp at G⟩,rfl⟩
   have l:∀(i:Nat)(row:List DT),((List.range len).map R)[i]?=some row→i<len∧row=R i:=by
    intro i row hi;rcases Wl i len with g|g
    ·rw[Wr,Xu g]at hi;cases hi;exact⟨g,rfl⟩
    ·rw[Wh (by simpa using g)]at hi;cases hi
   obtain⟨⟨Z1,v0,r0⟩,s0,l0⟩:=C 0 (by omega);obtain⟨_,Q,y⟩:=World.cells?_some v0;have o:=y 0 (by omega);have S:(a.add (0*e.size)).add 0=a:=by simp[Addr.add]
   rw[S,Wg (by omega)]at o;unfold World.cell? at o;split at o
   case h_2=>cases o
   rename_i c e' f hb;split at o
   ·cases o
   rename_i hsp;have Z0:a.spot=none:=by simpa using hsp
   have J:∀k,a.add k=⟨a.block,a.off+k,none⟩:=by
    intro k;unfold Addr.add;split
    ·rename_i U;subst U;cases a;simp_all
    ·rfl
   refine⟨[.s .far ⟨a.block,a.off,m,false,none⟩ e.size ((List.range len).map R)],.one ?_ ?_ rfl ?_,⟨_,_,rfl,by simp;omega,?_⟩,rfl⟩
   ·have:a=⟨a.block,a.off,none⟩:=by cases a;simp_all
    simp only[VT,Dec.addr,WH,YU,WC,W2];rw[←this]
   ·refine .s _ _ _ _ rfl rfl c e' f hb (by simp;omega) (fun i row hi=>?_) (fun i row j u hi hj=>?_) (fun i row j u hi hj=>?_)
    ·obtain⟨g,rfl⟩:=l i row hi;exact(C i g).2.2
    ·obtain⟨g,rfl⟩:=l i row hi;obtain⟨⟨A,v1,K⟩,s1,l1⟩:=C i g;obtain⟨_,V,z⟩:=World.cells?_some v1;have W:j<e.size:=by
      rcases Wl j (R i).length with q|q
      ·omega
      ·rw[Wh q]at hj;cases hj
     have B:=z j W;rw[Wg (by omega),J]at B;have I:=K.cells.2 j u _ hj (Wg (by omega));refine⟨_,?_,I⟩;have e1:Addr.add ⟨a.block,a.off+i*e.size,none⟩ j=⟨a.block,a.off+i*e.size+j,none⟩:=by
      unfold Addr.add;split
      ·rename_i U;subst U;rfl
      ·rfl
     rw[e1,uc hb]at B;exact B
    ·obtain⟨g,rfl⟩:=l i row hi;obtain⟨A,v1,K⟩:=(C i g).1;exact K.holds u (Wd hj)
   ·intro b v;rw[cJ]at v;simp only[WC,W2,WF,Wk,Wq]at v;rcases v with rfl|⟨row,L,u,p,v⟩
    ·exact dY hb
    ·obtain⟨i,hi⟩:=Wm L;obtain⟨g,rfl⟩:=l i row hi;obtain⟨A,v1,K⟩:=(C i g).1;exact(K.far u p).2 b v
   ·intro r G;obtain⟨i,hi⟩:=Wm G;obtain⟨g,rfl⟩:=l i r hi;exact(C i g).2.1
 | .struct fs,n,t,cs,x,d,h=>by
  unfold Ty.ok at d;split at d<;>try cases d
  rename_i a p;simp only[Ww,XW]at d;obtain⟨d,hc⟩:=d;obtain⟨xs,n',_,rfl,N,M,hf⟩:=DataW.trod_struct p h;obtain⟨ts,B,I⟩:=Fs.open fs a.toList 0 n' cs d (by rw[N,hc];omega) (fun f X=>by
   obtain⟨i,hi⟩:=Wm X;have:=hf i f (by simpa using hi);have Y:i<xs.length:=by
    rw[M];rcases Wl i a.size with g|g
    ·exact g
    ·rw[Wh (by simpa using g)]at hi;cases hi
   rw[Wg Y]at this;exact⟨_,this⟩)
  exact⟨ts,by simpa using B,I,by rw[N,hc];rfl⟩
theorem Fs.open:∀(fs:Fs)(a:List Field)(off n:Nat)(cs:List Value),Fs.ok P fs a off=true→cs.length=off+fs.size →
  (∀f∈a,∃y,DataW.trod enc P w 0 (fun _=>true) true n f.type ((cs.drop f.offset).take (P.cellsOf f.type))=some y)→∃ts,Reads w ts (cs.drop off)∧ShapeF fs ts
 | .nil,[],off,n,cs,b,c,h=>⟨[],by rw[WV (by simp[Fs.size]at c;omega)];exact .nil w,rfl⟩
 | .nil,_::_,off,n,cs,b,c,h=>by simp[Fs.ok]at b
 | .cons t r,[],off,n,cs,b,c,h=>by simp[Fs.ok]at b
 | .cons t r,f::a,off,n,cs,b,c,h=>by
  simp only[Fs.ok,Ww,XW]at b;obtain⟨⟨⟨d,hc⟩,i⟩,j⟩:=b;simp only[Fs.size]at c;obtain⟨y,e⟩:=h f (by simp);rw[d,hc]at e;obtain⟨xs,k,l,q⟩:=Ty.open t n f.type _ y i e;obtain⟨ys,m,o⟩:=Fs.open r a (off+t.size) n cs j (by omega) (fun g p=>h g (by simp[p]));refine⟨xs++ys,?_,xs,ys,rfl,l,o⟩;have:cs.drop off=(cs.drop off).take t.size++cs.drop (off+t.size):=by rw[←List.drop_drop,List.take_append_drop]
  rw[this];exact k.append m
end
end
end
def atR (h off n:Nat):Nat→Nat→Bool:=fun a c=>a==h&&decide (off≤c)&&decide (c<off+n)
def qR (h off n:Nat):Nat→Nat→Bool→Bool:=fun a c _=>atR h off n a c
theorem Got.dead {cx:Cx}{D:DSt}{w:World}{P:List (DT×Value)}{ts:List DT}{ys:List Value}(G:Got cx D w P ts ys)(p:Nat→Nat→Bool)(q:Nat→Nat→Bool→Bool):
  Got cx (St.dead p q D) w P (ts.map (T.dead p)) ys:=by
 refine⟨vU G.v,fun t a=>?_,fun t a f=>?_,fun t a=>?_,fun b=>?_⟩
 ·obtain⟨u,d,rfl⟩:=Wx.1 a;exact Of (G.holds u d)
 ·obtain⟨u,d,rfl⟩:=Wx.1 a;rcases T.dead_cases p u with e|⟨e,_⟩
  ·rw[e]at f ⊢;exact G.own u d f
  ·rw[e]at f;cases f
 ·obtain⟨u,d,rfl⟩:=Wx.1 a;rcases T.dead_cases p u with e|⟨e,_⟩
  ·rw[e];exact Dr (fun h c t=>it) (G.kind u d)
  ·rw[e];trivial
 ·have:(ts.map (T.dead p)).flatMap ownR=ts.flatMap ownR:=by rw[X5];simp only[A0]
  rw[this];exact G.cnt b
theorem Inv.box_got {cx:Cx}{D:DSt}{P:List (DT×Value)}{tm:Array Value}{w:World}(I:Inv cx D P tm w){h:Nat}{b:Nat×Nat}{ts:List DT}(hb:D[h]?=some (.box b ts))
  {us:List DT} {ys:List Value} (G:Got cx D w P us ys) {v:DT} (hv:v∈us):b.1∉bl v:=by
 intro a;have c:=(I.box_may hb).1;have e:=G.kind v hv;cases v with
 |v x=>simp[bl]at a
 |any=>simp[bl]at a
 |s k d z r =>
  cases k with
  |far=>exact Cx.far_not (e _ a) c
  |lent i j l =>obtain⟨t',g1,f,g3,g⟩:=e;exact I.box_tree hb g1 f (g3 _ a)
  |own =>have m:=I.once b.1;have n:=G.cnt b.1;have o:=cI (b:=b.1) (Wd hb) (by simp[ownBl]);have p:0<(us.flatMap ownR).count b.1:=Wz.2 (Wq.2 ⟨_,hv,by simp only[ownR,T.isOwn,WN];exact a⟩);omega
theorem lF {α:Type}{l:List α}{o:Nat}{new:List α}(h:o+new.length≤l.length){i:Nat}(hi:¬(o≤i∧i<o+new.length)):(aD l o new)[i]?=l[i]?:=by
 rw[eP h];split
 ·rfl
 ·split
  ·omega
  ·rfl
theorem Inv.storeBox {cx:Cx}{D:DSt}{P:List (DT×Value)}{tm:Array Value}{w:World}(I:Inv cx D P tm w){h:Nat}{b:Nat×Nat}{ts:List DT}(hb:D[h]?=some (.box b ts))
  {us:List DT} {ys:List Value} (G:Got cx D w P us ys) {off:Nat} (hl:off+us.length≤ts.length) (Z2:0<us.length):
  (∃c e lo hi,w.heap[b.1]?=some (.cells c e (lo,hi))∧b.2+off+ys.length≤c.size∧∀x,b.2+off≤x→x<b.2+off+ys.length→¬(lo≤x∧x<hi)) ∧
  Inv cx ((St.dead (atR h off us.length) (qR h off us.length) D).set h (.box b (aD (ts.map (T.dead (atR h off us.length))) off (us.map (T.dead (atR h off us.length))))))
   [] tm (w.setCells b.1 (b.2+off) ys):=by
 have Z3:=G.v.1;obtain⟨⟨c,e,⟨lo,hi⟩,hh,hv⟩,i⟩:=(I.mem _ (Wd hb)).2.2;have Z6:b.2+ts.length≤c.size:=by
  obtain⟨y,hy,_⟩:=hv (ts.length-1) _ (Wg (by omega));rcases Wl (b.2+(ts.length-1)) c.size with g|g
  ·omega
  ·rw[Xe g]at hy;cases hy
 have Y:∀x,b.2+off≤x→x<b.2+off+ys.length→¬(lo≤x∧x<hi):=fun x m J=>i c e lo hi hh x (by omega) (by omega)
 refine⟨⟨c,e,lo,hi,hh,by omega,Y⟩,?_⟩;obtain⟨f1,f2,f3,f4,f5,f6⟩:=kY b.1 e (lo,hi) ys (b.2+off) w c hh (by omega);have F:=I.dead (atR h off us.length) (qR h off us.length);have o:=G.dead (atR h off us.length) (qR h off us.length);have hb2:=Ji (p:=atR h off us.length) (q:=qR h off us.length) hb;have Z:∀{n f:Nat},atR h off us.length n f=true→∀s∈St.dead (atR h off us.length) (qR h off us.length) D,¬sg n f s∧((∀b,qR h off us.length n f b=true)→∀st,¬qV n f st s)∧((qR h off us.length n f true=true)→∀st,qV n f st s→st=[]):=
  fun K=>oj K
 generalize Z7:St.dead (atR h off us.length) (qR h off us.length) D=D2 at F o hb2 Z ⊢;generalize Q:ts.map (T.dead (atR h off us.length))=A at hb2 ⊢;generalize R:us.map (T.dead (atR h off us.length))=l at o ⊢;have Z4:A.length=ts.length:=by rw[←Q];simp
 have Z5:l.length=us.length:=by rw[←R];simp
 have B:off+l.length≤A.length:=by omega
 have L:=F.mem _ (Wd hb2);have a:∀t:DT,b.1∉bl t→∀x∈bl t,x<w.heap.size→(w.setCells b.1 (b.2+off) ys).heap[x]?=w.heap[x]?:=fun t ht x hx _=>f2 x (fun e=>ht (e ▸ hx))
 refine F.boxSet (ts:=A) ⟨hb2,lE B,?_,?_,?_,?_,?_,?_,?_,?_,?_,?_,?_,?_,?_⟩
 ·
  refine⟨_,e,(lo,hi),f1,fun j t M=>?_⟩;obtain⟨c2,e2,Z8,S,U⟩:=L.2.2.1;rw[hh]at S;cases S;rw[eP B]at M;have Z0:b.2+off+ys.length≤c.toList.length:=by simp;omega
  simp only[Yk];rw[eP Z0];split at M
  ·rename_i m;rw[Wa (by omega)];simpa using U j t M
  ·split at M
   ·rename_i m J;rw[Wo (by omega),Wa (by omega)];have C:j-off<ys.length:=by omega
    refine⟨ys[j-off],?_,?_⟩
    ·rw[show b.2+j-(b.2+off)=j-off by omega];exact Wg C
    ·exact o.v.2 _ t _ M (Wg C)
   ·rename_i m J;rw[Wo (by omega),Wo (by omega)];simpa using U j t M
 ·intro f N Z9 Za hc x m J;rw[f1]at hc;cases hc;exact i c e lo hi hh x m (by omega)
 ·intro t ht;rcases gR ht with ht|ht
  ·exact(L.1 t ht).frame (a t (F.box_root hb2 hb2 ht))
  ·exact(o.holds t ht).frame (a t (F.box_got hb2 o ht))
 ·intro t ht ho;rcases gR ht with ht|ht
  ·exact(L.2.1 t ht ho).frame (a t (F.box_root hb2 hb2 ht))
  ·exact(o.own t ht ho).frame (a t (F.box_got hb2 o ht))
 ·intro t ht;have hk:bK cx D2 t:=by
   rcases gR ht with ht|ht
   ·exact F.kind _ (Wd hb2) t ht
   ·exact o.kind t ht
  have Z1:∀c O d z r,off≤c→c<off+us.length→t ≠ .s (.lent h c O) d z r:=by
   intro c O d z r m J e;have V:∀u:DT,u.dead (atR h off us.length) ≠ .s (.lent h c O) d z r:=by
    intro u H;rcases T.dead_cases (atR h off us.length) u with N|⟨N,_⟩
    ·rw[N]at H;subst H;have:(T.s (.lent h c O) d z r:DT).dead (atR h off us.length)= .any:=by simp[T.dead,atR,m,J]
     rw[this]at N;cases N
    ·rw[N]at H;cases H
   subst e;rcases gR ht with ht|ht
   ·rw[←Q]at ht;obtain⟨u,_,H⟩:=Wx.1 ht;exact V u H
   ·rw[←R]at ht;obtain⟨u,_,H⟩:=Wx.1 ht;exact V u H
  cases t with
  |v x=>trivial
  |any=>trivial
  |s k d z r =>
   cases k with
   |own=>trivial
   |far=>exact hk
   |lent n f O =>
    obtain⟨t',g1,g2,g3⟩:=hk;refine⟨t',?_,g2,g3⟩;by_cases e:n=h
    ·subst e;have W:¬(off≤f∧f<off+l.length):=fun⟨m,J⟩=>Z1 f O d z r m (by omega) rfl
     have C:n<D2.length:=by
      rcases Wl n D2.length with g|g
      ·exact g
      ·rw[Wh g]at hb2;cases hb2
     simp only[av,hb2,V9,aZ]at g1;simp only[av,Wp C,V9,aZ];rw[lF B W];exact g1
    ·rw[na e];exact g1
 ·intro x;have m:=pQ ownR A l off x;have J:=o.cnt x;rw[cO];omega
 ·intro f t hc ho;by_cases X:off≤f∧f<off+l.length
  ·right;have K:atR h off us.length h f=true:=by simp[atR,X.1];omega
   refine⟨fun s hs=>?_,fun s hs st=>?_⟩
   ·exact(Z K s hs).1
   ·exact(Z K s hs).2.1 (fun b=>K) st
  ·left;rw[lF B X];exact hc
 ·omega
 ·exact fun x _ hx=>f2 x hx
 ·exact f4
 ·exact f5
 ·exact f6
 ·intro p K;cases K
section
variable  {δ : Type}
def T.flat:T δ→Bool| .s _ _ _ _=>false|_=>true
def setRow (i off:Nat)(us:List (T δ)):T δ→Option (T δ)| .s k d z rows=>(rows[i]?).bind fun row=>if off+us.length≤row.length then some (.s k d z (rows.set i (aD row off us)))else none|_=>none
end
theorem Eu {f:DT→Option DT}{n n':DT}(hf:f n=some n')(K:∀a d z m,mq n a d z m→mq n' a d z m):∀(st:List (Nat×Nat)){t t':DT},
  getN t st=some n→gl f t st=some t'→∀a d z m,mq t a d z m→mq t' a d z m
 |[],t,t',l,q,a,d,z,m,h=>by cases l;simp only[gl,hf]at q;cases q;exact K a d z m h
 |(i,c)::st,t,t',l,q,a,d,z,m,h=>by
  cases t with
  |v x=>simp[getN]at l
  |any=>simp[getN]at l
  |s M N z0 rows =>
   simp only[getN,Wb]at l;obtain⟨u,⟨row,hi,y⟩,l⟩:=l;simp only[gl,hi,y,V9,We]at q;obtain⟨u',q,rfl⟩:=q;have H:=Eu hf K st l q;have o:i<rows.length:=by
    rcases Wl i rows.length with g|g
    ·exact g
    ·rw[Wh g]at hi;cases hi
   have w:c<row.length:=by
    rcases Wl c row.length with g|g
    ·exact g
    ·rw[Wh g]at y;cases y
   obtain⟨B,b,g1,A⟩:=h;cases a with
   |nil =>cases g1;exact⟨_,_,rfl,by simpa using A⟩
   |cons p a =>
    obtain⟨C,D⟩:=p;simp only[getN,Wb]at g1;obtain⟨v,⟨F,j,k⟩,g1⟩:=g1;by_cases e:C=i∧D=c
    ·obtain⟨rfl,rfl⟩:=e;rw[hi]at j;cases j;rw[y]at k;cases k;obtain⟨I,r,q1,J⟩:=H a d z m ⟨B,b,g1,A⟩;refine⟨I,r,?_,J⟩;simp only[getN];rw[Wp o];simp only[V9];rw[Wp w];exact q1
    ·refine⟨B,b,?_,A⟩;simp only[getN];by_cases G:C=i
     ·subst G;rw[hi]at j;cases j;have L:¬c=D:=fun h=>e ⟨rfl,h.symm⟩
      rw[Wp o];simp only[V9];rw[Ws L,k];exact g1
     ·rw[Ws (fun h=>G h.symm),j];simp only[V9];rw[k];exact g1
theorem KF {k:Kd}{u:Dec}{z0:Nat}{rows:List (List DT)}{i off:Nat}{row us:List DT}(hi:rows[i]?=some row)(B:off+us.length≤row.length)
  (b:∀c,off≤c→c<off+us.length→∀t,row[c]?=some t→t.flat=true) (a:List (Nat×Nat)) (d:Dec) (z m:Nat) (h:mq (.s k u z0 rows) a d z m):
  mq (.s k u z0 (rows.set i (aD row off us))) a d z m:=by
 have n:i<rows.length:=by
  rcases Wl i rows.length with g|g
  ·exact g
  ·rw[Wh g]at hi;cases hi
 obtain⟨C,e,g1,w⟩:=h;cases a with
 |nil =>cases g1;exact⟨_,_,rfl,by simpa using w⟩
 |cons p a =>
  obtain⟨D,o⟩:=p;simp only[getN,Wb]at g1;obtain⟨v,⟨y,f,j⟩,g1⟩:=g1;refine⟨C,e,?_,w⟩;simp only[getN];by_cases A:D=i
  ·subst A;rw[hi]at f;cases f;rw[Wp n];simp only[V9];by_cases l:off≤o∧o<off+us.length
   ·have:=b o l.1 l.2 v j;cases v with
    |s k d z r=>cases this
    |v x=>cases a with
     |nil=>cases g1
     |cons p q=>simp[getN]at g1
    |any=>cases a with
     |nil=>cases g1
     |cons p q=>simp[getN]at g1
   ·rw[lF B l,j];exact g1
  ·rw[Ws (fun h=>A h.symm),f];simp only[V9];rw[j];exact g1
theorem Inv.got_apart {cx:Cx}{D:DSt}{P:List (DT×Value)}{tm:Array Value}{w:World}(I:Inv cx D P tm w){h c:Nat}{t:DT}(hc:av D h c=some t)(e:t.isOwn=true)
  {us:List DT} {ys:List Value} (G:Got cx D w P us ys) {v:DT} (hv:v∈us) (hf:v.fine=true) {b:Nat} (hb:b∈bl t) (a:b∈bl v):False:=by
 cases v with
 |v x=>simp[bl]at a
 |any=>simp[bl]at a
 |s k d z r =>
  cases k with
  |far=>cases hf
  |lent i j l=>cases hf
  |own =>obtain⟨s,g1,f,g3,g,g4⟩:=ce hc;have m:=I.once b;have n:=G.cnt b;have o:=cI (b:=b) f (g4 e b hb);have p:0<(us.flatMap ownR).count b:=Wz.2 (Wq.2 ⟨_,hv,by simp only[ownR,T.isOwn,WN];exact a⟩);omega
theorem vZ {t:DT}(h:t.fine=true):t.isOwn=true∨bl t=[]:=by
 cases t with
 |v x=>right;simp[bl]
 |any=>right;simp[bl]
 |s k d z r=>cases k<;>first|(left;rfl)|cases h
theorem sk {w:World}{t:DT}(hf:t.fine=true)(h:t.isOwn=true→OwnT w t):OwnT w t:=by
 cases t with
 |v x=>exact .v x
 |any=>exact .any
 |s k d z r=>cases k<;>first|exact h rfl|cases hf
theorem pA {i a z j:Nat}(h:a<i)(b:j<z):a*z+j<i*z:=by have:(a+1)*z≤i*z:=Xq _ h;rw[XA]at this;omega
theorem jO:∀(st:List (Nat×Nat)){t n:DT},getN t st=some n→∀b,(bl n).count b≤(bl t).count b
 |[],t,n,h,b=>by cases h;exact WU _
 |(i,c)::st,t,n,h,b=>by
  cases t with
  |v x=>simp[getN]at h
  |any=>simp[getN]at h
  |s k d z rows =>simp only[getN,Wb]at h;obtain⟨u,⟨row,hi,a⟩,e⟩:=h;have f:=jO st e b;have g:=IP (k:=k) (d:=d) (z:=z) hi a b;omega
theorem NodeOk.setRow {cx:Cx}{D:DSt}{P:List (DT×Value)}{tm:Array Value}{w:World}(I:Inv cx D P tm w){h c:Nat}{t:DT}(hc:av D h c=some t)(R:t.isOwn=true)
  {st:List (Nat×Nat)} {k:Kd} {d:Dec} {z:Nat} {rows:List (List DT)} (hn:getN t st=some (.s k d z rows)) {i off:Nat} {row us:List DT} {ys:List Value} (hi:rows[i]?=some row)
  (G:Got cx D w P us ys) (H:∀u∈us,u.fine=true) (hl:off+us.length≤row.length):
  (∃S e lo V,w.heap[d.b]?=some (.cells S e (lo,V))∧d.o+i*z+off+ys.length≤S.size∧∀x,d.o+i*z+off≤x→x<d.o+i*z+off+ys.length→¬(lo≤x∧x<V)) ∧
  (d.nil=false∧d.b<w.heap.size∧d.b∈bl t) ∧
  NodeOk w (w.setCells d.b (d.o+i*z+off) ys) (.s k d z rows) (.s k d z (rows.set i (aD row off us))):=by
 have Z9:=G.v.1;obtain⟨s,hs,Z2,hr,Z3,Za⟩:=ce hc;have U:=I.mem s Z2;have hH:=Holds.getN st (U.1 t hr) hn;have hO:=OwnT.getN st (U.2.1 t Z3 R) hn;have B:i<rows.length:=by
  rcases Wl i rows.length with g|g
  ·exact g
  ·rw[Wh g]at hi;cases hi
 cases hH with
 |e=>simp at B
 |s _ _ _ _ r hsp S e f hb hcap hz hv hh =>
  cases hO with
  |nil=>simp at B
  |s _ _ _ Z4 Zb c1 e1 lo L W Z5 hroom X Z6 =>
   rw[hb]at W;cases W;have Z7:=hz i row hi;have Z8:(i+1)*z≤d.cap*z:=Xq _ (by omega);rw[XA]at Z8;have M:d.o+i*z+off+ys.length≤S.size:=by omega
   have N:d.b∈bl (.s .own d z rows:DT):=lZ r;have Y:d.b∈bl t:=wM st hn d.b N;refine⟨⟨S,e,lo,L,hb,M,fun x p C=>X x (by omega) (by omega)⟩,⟨r,dY hb,Y⟩,?_⟩;obtain⟨f1,f2,f3,f4,f5,f6⟩:=kY d.b e (lo,L) ys (d.o+i*z+off) w S hb M;have Z:=I.bl_once hc R d.b;have F:∀(m:Nat)(a:List DT)(j:Nat)(u:DT),rows[m]?=some a→a[j]?=some u→d.b∉bl u:=by
    intro m a j u p C U;have q1:=IP (k := .own) (d:=d) (z:=z) p C d.b;rw[r]at q1;simp only[WC,W2]at q1;have q2:(bl (.s .own d z rows:DT)).count d.b≤1:=by refine W6 ?_ Z;exact jO st hn d.b
    have q3:0<(bl u).count d.b:=Wz.2 U;simp at q1;omega
   have n:∀u:DT,d.b∉bl u→∀x∈bl u,x<w.heap.size→(w.setCells d.b (d.o+i*z+off) ys).heap[x]?=w.heap[x]?:=fun u O x hx _=>f2 x (fun e=>O (e ▸ hx))
   have Q:∀u∈us,d.b∉bl u:=fun u O U=>I.got_apart hc R G O (H u O) Y U
   have A:∀(m:Nat)(a:List DT)(j:Nat)(u:DT),(rows.set i (aD row off us))[m]?=some a→a[j]?=some u →
     (∃l,rows[m]?=some l∧l[j]?=some u∧¬(m=i∧off≤j∧j<off+us.length))∨(m=i∧off≤j∧j<off+us.length∧us[j-off]?=some u):=by
    intro m a j u p C;by_cases e:m=i
    ·subst e;rw[Wp B]at p;cases p;by_cases J:off≤j∧j<off+us.length
     ·right;rw[eP hl,Wo (by omega),Wa (by omega)]at C;exact⟨rfl,J.1,J.2,C⟩
     ·left;rw[lF hl J]at C;exact⟨row,hi,C,fun g=>J g.2⟩
    ·left;rw[Ws (fun g=>e g.symm)]at p;exact⟨a,p,C,fun g=>e g.1⟩
   refine⟨?_,?_,?_,?_⟩
   ·refine .s _ _ _ _ r hsp _ e (lo,L) f1 (by simpa using hcap) (fun m a p=>?_) (fun m a j u p C=>?_) (fun m a j u p C=>?_)
    ·by_cases e:m=i
     ·subst e;rw[Wp B]at p;cases p;rw[lE hl];exact Z7
     ·rw[Ws (fun g=>e g.symm)]at p;exact hz m a p
    ·have Z0:d.o+i*z+off+ys.length≤S.toList.length:=by simpa using M
     simp only[Yk];rcases A m a j u p C with⟨l,g1,K,g3⟩|⟨rfl,g1,K,g3⟩
     ·obtain⟨y,y1,y2⟩:=hv m l j u g1 K;refine⟨y,?_,y2⟩;have hj:j<z:=by
       have:=hz m l g1;rcases Wl j l.length with q|q
       ·omega
       ·rw[Wh q]at K;cases K
      rw[lF Z0 ?_]
      ·simpa using y1
      ·intro J;rcases Yi m i with q|q|q
       ·have:=pA q hj;omega
       ·subst q;exact g3 ⟨rfl,by omega,by omega⟩
       ·have:=pA (j:=off+us.length-1) (z:=z) q (by omega);omega
     ·have Z1:j-off<ys.length:=by omega
      rw[eP Z0,Wo (by omega),Wa (by omega)];refine⟨ys[j-off],?_,G.v.2 _ u _ g3 (Wg Z1)⟩;rw[show d.o+m*z+j-(d.o+m*z+off)=j-off by omega];exact Wg Z1
    ·rcases A m a j u p C with⟨l,g1,K,_⟩|⟨_,_,_,g3⟩
     ·exact(hh m l j u g1 K).frame (n u (F m l j u g1 K))
     ·exact(G.holds u (Wd g3)).frame (n u (Q u (Wd g3)))
   ·refine .s _ _ _ r hsp _ e lo L f1 (by simpa using hcap) ?_ X (fun m a j u p C=>?_)
    ·simp only[YV];rw[lE (by simpa using M)];simpa using hroom
    ·rcases A m a j u p C with⟨l,g1,K,_⟩|⟨_,_,_,g3⟩
     ·exact(Z6 m l j u g1 K).frame (n u (F m l j u g1 K))
     ·have O:=Wd g3;exact(sk (H u O) (G.own u O)).frame (n u (Q u O))
   ·intro y hy;simpa[VT]using hy
   ·intro x _ hx;exact f2 x fun e=>hx (e ▸ N)
def qSt (a:Bool)(h c:Nat):Nat→Nat→Bool→Bool:=if a then qNo else ny h c
theorem oJ {D:DSt}{h c:Nat}{t:DT}(hc:av D h c=some t)(d:t.isOwn=true)(b:Nat):(bl t).count b≤bv D b:=by
 unfold av at hc;simp only[Wb]at hc;obtain⟨cs,⟨s,hs,a⟩,e⟩:=hc;have f:=bR ownR (T.any:DT) b cs c t e;have i:(ownR (T.any:DT)).count b=0:=rfl;have g:ownR t=bl t:=by simp[ownR,d]
 have j:=qB a b;have k:=bR ownBl (Sl.any:DSl) b D h s hs;have l:(ownBl (Sl.any:DSl)).count b=0:=rfl;unfold bv;rw[g]at f;omega
theorem Inv.updNode {cx:Cx}{D:DSt}{P P':List (DT×Value)}{tm:Array Value}{w w':World}(I:Inv cx D P tm w){h c:Nat}{t:DT}(hc:av D h c=some t)(j:t.isOwn=true)
  {st:List (Nat×Nat)} {f:DT→Option DT} {n n':DT} (y:getN t st=some n) (hf:f n=some n') (N:NodeOk w w' n n') (Z0:n.isOwn=true→n'.isOwn=true)
  {p:Nat→Nat→Bool} {q:Nat→Nat→Bool→Bool} (hp:p h c=true)
  (hq:(∀l d z m,mq n l d z m→mq n' l d z m)∨(q h c true=true∧∀d z m,mq n [] d z m→mq n' [] d z m)∨(∀b,q h c b=true))
  (B:∀b,(bl n').count b+aV P' b≤if b<w.heap.size then(bl n).count b+aV P b else 1) (L:∀b,w.heap.size≤b→0<(bl n').count b+aV P' b→b<w'.heap.size)
  (F:w.heap.size≤w'.heap.size) (Z1:w'.os=w.os) (G:w'.tape=w.tape) (M:w'.output=w.output)
  (H:∀p∈P',VT p.1 p.2∧Holds w' p.1∧(p.1.isOwn=true→OwnT w' p.1)∧(p.1.isOwn=false→∀x∈bl p.1,cx.far x)):
  ∃D',dL f (St.dead p q D) h c st=some D'∧Inv cx D' P' tm w':=by
 obtain⟨s,hs,Z2,hr,O,Q⟩:=ce hc;have hm:=I.mem s Z2;have A:∃t',gl f t st=some t':=by
  clear hr O Q B hm hc j;induction st generalizing t with
  |nil=>cases y;exact⟨n',hf⟩
  |cons a st ih =>
   obtain⟨i,c⟩:=a;cases t with
   |v x=>simp[getN]at y
   |any=>simp[getN]at y
   |s k d z rows =>simp only[getN,Wb]at y;obtain⟨u,⟨row,hi,hj⟩,hg⟩:=y;obtain⟨u',Z3⟩:=ih hg;exact⟨.s k d z (rows.set i (row.set c u')),by simp[gl,hi,hj,Z3]⟩
 obtain⟨t',A⟩:=A;obtain⟨Z,R,C,_⟩:=GA N hf st (hm.1 t hr) (hm.2.1 t O j) (fun b=>I.bl_once hc j b) y A;have J:t'.isOwn=true:=by
  cases st with
  |nil =>cases y;simp only[gl,hf]at A;cases A;exact Z0 j
  |cons a st=>exact(C (by simp)).1
 have K:av (St.dead p q D) h c=some t:=it hc j;obtain⟨D',S⟩:=Dh (t':=t') K;refine⟨D',?_,?_⟩
 ·unfold dL;rw[K];simp only[V9,A,S]
 have I2:=I.dead p q;have o:∀b,(bl n).count b≤(bl t).count b:=jO st y;have U:ownR t'=bl t':=by simp[ownR,J]
 have V:ownR t=bl t:=by simp[ownR,j]
 refine I2.upd S ⟨K,j,Z.holds,fun _=>Z.own,.inl J,Z.val,?_,?_,?_,?_,F,?_,Z1,G,M,H⟩
 ·intro b;have h1:=B b;have h2:=R b;have h3:=o b;have h4:=I.once b;have h5:=oJ hc j b;rw[U,V];by_cases r:b<w.heap.size
  ·rw[Wa r]at h1 ⊢;omega
  ·rw[Wo r]at h1 ⊢;have h6:bv D b+aV P b=0:=by
    rcases W4 (bv D b+aV P b)with g|g
    ·exact g
    ·exact absurd (I.bnd b g).2 r
   omega
 ·intro b hb W;have h2:=R b;have h5:=oJ hc j b;have h6:bv D b+aV P b=0:=by
   rcases W4 (bv D b+aV P b)with g|g
   ·exact g
   ·have:=(I.bnd b g).2;omega
  rw[U]at W;exact L b hb (by have:=o b;omega)
 ·intro s hs;exact(oj (p:=p) (q:=q) hp s hs).1
 ·intro s hs l hsp;refine⟨J,?_⟩;have X:=(oj (p:=p) (q:=q) (h:=h) (c:=c) hp s hs).2;rcases hq with hq|⟨Z4,Z5⟩|hq
  ·exact Eu hf hq st y A l
  ·have e:=X.2 Z4 l hsp;subst e;intro d z m Y;cases st with
   |nil =>cases y;simp only[gl,hf]at A;cases A;exact Z5 d z m Y
   |cons a st=>exact(C (by simp)).2 d z m Y
  ·exact absurd hsp (X.1 hq l)
 ·intro b r hb;exact Z.same b r hb
theorem Inv.storeNode {cx:Cx}{D:DSt}{P:List (DT×Value)}{tm:Array Value}{w:World}(I:Inv cx D P tm w){h c:Nat}{t:DT}(hc:av D h c=some t)(a:t.isOwn=true)
  {st:List (Nat×Nat)} {k:Kd} {d:Dec} {z:Nat} {rows:List (List DT)} (r:getN t st=some (.s k d z rows)) {i off:Nat} {row us:List DT} {ys:List Value} (hi:rows[i]?=some row)
  (G:Got cx D w P us ys) (j:∀u∈us,u.fine=true) (A:off+us.length≤row.length) (B:Bool)
  (C:B=true→∀c,off≤c→c<off+us.length→∀t,row[c]?=some t→t.flat=true):
  (∃y e lo l,w.heap[d.b]?=some (.cells y e (lo,l))∧d.o+i*z+off+ys.length≤y.size∧∀x,d.o+i*z+off≤x→x<d.o+i*z+off+ys.length→¬(lo≤x∧x<l)) ∧
  ∃D',dL (setRow i off us) (St.dead (dm h c) (qSt B h c) D) h c st=some D'∧Inv cx D' [] tm (w.setCells d.b (d.o+i*z+off) ys):=by
 obtain⟨n,⟨M,O,U⟩,N⟩:=NodeOk.setRow I hc a r hi G j A;refine⟨n,?_⟩;obtain⟨y,e,lo,l,hh,F,V⟩:=n;obtain⟨f1,f2,f3,f4,f5,f6⟩:=kY d.b e (lo,l) ys (d.o+i*z+off) w y hh F;have Q:i<rows.length:=by
  rcases Wl i rows.length with g|g
  ·exact g
  ·rw[Wh g]at hi;cases hi
 have W:(T.s k d z rows:DT).isOwn=true:=by obtain⟨s,hs,H,hr,J,R⟩:=ce hc;have:=OwnT.getN st ((I.mem s H).2.1 t J a) r;cases this<;>rfl
 have q:∀b,(bl (.s k d z (rows.set i (aD row off us)):DT)).count b≤(bl (.s k d z rows:DT)).count b+aV P b:=by
  intro b;have S:=G.cnt b;have h2:=pQ bl row us off b;have h3:(us.flatMap bl).count b≤(us.flatMap ownR).count b:=by
   have:us.flatMap bl=us.flatMap ownR:=by
    rw[Yw,Yw,WT fun u X=>?_];rcases vZ (j u X)with g|g
    ·simp[ownR,g]
    ·simp[ownR,g]
   rw[this];exact WU _
  have h4:=bR (fun x:List DT=>x.flatMap bl) (aD row off us) b rows i row hi;rw[cJ,cJ,WD,WD];omega
 refine I.updNode hc a r (f:=setRow i off us) ?_ N (fun _=>by cases k<;>first|rfl|cases W) (by simp[dm]) ?_ ?_ ?_ (by omega) f4 f5 f6 (fun p Y=>by cases Y)
 ·simp only[setRow,hi,V9];rw[Wa A]
 ·cases B with
  |true =>left;exact KF hi A (C rfl)
  |false =>right;left;refine⟨by simp[qSt,ny],?_⟩;rintro d z m ⟨k1,K,g1,Z⟩;cases g1;exact⟨_,_,rfl,by simpa using Z⟩
 ·intro b;have S:=q b;rw[cO];split
  ·omega
  ·rename_i L;have h5:=oJ hc a b;have h6:bv D b+aV P b=0:=by
    rcases W4 (bv D b+aV P b)with g|g
    ·exact g
    ·exact absurd (I.bnd b g).2 L
   have h7:=jO st r b;omega
 ·intro b hb v;have S:=q b;rw[cO]at v;have h5:=oJ hc a b;have h6:bv D b+aV P b=0:=by
   rcases W4 (bv D b+aV P b)with g|g
   ·exact g
   ·have:=(I.bnd b g).2;omega
  have h7:=jO st r b;omega
section
variable  {δ β : Type}
def ju (D:St δ β)(p:Sl δ β)(us:List (T δ)):Option (St δ β):=
 match p with
 | .pb h off =>
  match D[h]? with
  |some (.box b ts)=>
   if off+us.length≤ts.length then
    some ((St.dead (atR h off us.length) (qR h off us.length) D).set h (.box b (aD (ts.map (T.dead (atR h off us.length))) off (us.map (T.dead (atR h off us.length))))))
   else none
  |_=>none
 | .pe h c st i off =>
  if us.all T.fine then
   match av D h c with
   |some t =>
    if t.isOwn then
     match getN t st with
     |some (.s _ _ _ rows)=>
      match rows[i]? with
      |some row =>
       if off+us.length≤row.length then
        dL (setRow i off us) (St.dead (dm h c) (qSt (((row.drop off).take us.length).all T.flat) h c) D) h c st
       else none
      |none=>none
     |_=>none
    else none
   |none=>none
  else none
 |_=>none
def rJ (M:Mk δ β)(tab:Tab)(D:St δ β)(t:Nat)(p x:Operand)(tk:Bool):Option (St δ β):=
 match tab.ti t,cellsOf M D x tk with
 |some ti,some (_,us,D1)=>if us.length=ti.size∧0<us.length then(opd M.nil D1 p).bind fun p=>ju D1 p us else none
 |_,_=>none
end
theorem Inv.cellsOf {cx:Cx}{D:DSt}{a:Act}{w:World}(I:Inv cx D [] a.tmps w){x:Operand}{tk g:Bool}{ts:List DT}{D':DSt}(e:cellsOf mkD D x tk=some (g,ts,D')):
  ∃ys P,Inv cx D' P a.tmps w∧Got cx D' w P ts ys∧co g (a.eval x) ys:=by
 unfold Am.cellsOf at e;split at e
 ·exact I.cellsTake e
 ·rw[We]at e;obtain⟨⟨d,ts'⟩,h,e⟩:=e;cases e;obtain⟨ys,b,c⟩:=I.cellsCopy h;exact⟨ys,[],I,b,c⟩
theorem Hi {P:Program}{tab:Tab}(ok:bz P tab){cx:Cx}{D1 D':DSt}{a:Act}{w:World}{I:List (DT×Value)}(r:Inv cx D1 I a.tmps w){t:Nat}{ti:TI}{p:Operand}{o:Value}{g:Bool}{us:List DT}{ys:List Value}
  (s:tab.ti t=some ti) (G:Got cx D1 w I us ys) (hv:co g o ys) (u:us.length=ti.size∧0<us.length) {J:DSl} (O:Am.opd mkD.nil D1 p=some J) (e:ju D1 J us=some D'):
  ∃w',(Instr.storeAt t (a.eval p) o).run P w = .ok () w'∧Inv cx D' [] a.tmps w':=by
 have K:=r.opd (a:=a) O;have L:=G.v.1;have q:g=false→o.oneCell'=true:=by
  intro q;subst q;have:ys=[o]:=by simpa[co]using hv
  exact G.v.cells1 _ (by rw[this];simp)
 have j:=Tab.ok ok s;unfold ju at e;split at e
 ·rename_i h off;split at e
  case h_2=>cases e
  rename_i b ts hb;split at e
  case isFalse=>cases e
  rename_i x;cases e;obtain⟨⟨c,e,lo,hi,y,A,B⟩,C⟩:=r.storeBox hb G x u.2;obtain⟨V,ts',l,D⟩:=K.val;rw[hb]at l;cases l;refine⟨_,?_,C⟩;rw[D];exact Cv j y hv q (by omega) A B G.v.cells1
 ·rename_i h c st i off;split at e
  case isFalse=>cases e
  rename_i f;split at e
  case h_2=>cases e
  rename_i W m;split at e
  case isFalse=>cases e
  rename_i n;split at e
  case h_2=>cases e
  rename_i k d z rows M;split at e
  case h_2=>cases e
  rename_i row hi;split at e
  case isFalse=>cases e
  rename_i x;obtain⟨⟨X,Y,lo,Q,y,A,B⟩,Z,F,C⟩:=r.storeNode m n M hi G (by simpa using f) x (((row.drop off).take us.length).all T.flat) (fun hs c R S t U=>by rw[Wt]at hs;refine hs t (Wd (i:=c-off) ?_);rw[Xl,Wa (by omega),Xa,show off+(c-off)=c by omega];exact U);rw[F]at e;cases e;obtain⟨d',z',n',⟨t1,q1,q2,k2,H,N,q4⟩,_,D⟩:=K.val;rw[m]at q1;cases q1;rw[M]at N;cases N;refine⟨_,?_,C⟩;rw[D];exact Cv j y hv q (by omega) A B G.v.cells1
 ·cases e
theorem NA {P:Program}{tab:Tab}(ok:bz P tab){cx:Cx}{D D':DSt}{a:Act}{w:World}(I:Inv cx D [] a.tmps w){t:Nat}{p x:Operand}{tk:Bool}
  (e:rJ mkD tab D t p x tk=some D'):∃w',(Instr.storeAt t (a.eval p) (a.eval x)).run P w = .ok () w'∧Inv cx D' [] a.tmps w':=by
 unfold rJ at e;split at e
 case h_2=>cases e
 rename_i ti g us D1 b hc;split at e
 case isFalse=>cases e
 rename_i c;rw[Wb]at e;obtain⟨h,d,e⟩:=e;obtain⟨ys,i,f,G,hv⟩:=I.cellsOf hc;exact Hi ok f b G hv c d e
section
structure m5 (δ β:Type) where
 box:β
 row:Nat→δ
 app:δ→Nat→Nat→Nat→δ
 str:Nat→Nat→δ
def frD (w:World):m5 Dec (Nat×Nat):=⟨(w.heap.size,0),fun cap=>⟨w.heap.size,0,cap,false,none⟩,fun d n m e=>if n+m≤d.cap then d else⟨w.heap.size,0,grownCap w (n+m) d.cap e,false,none⟩,fun n e=>⟨w.heap.size,0,grownCap w n 0 e,false,none⟩⟩
def frU:m5 Unit Unit:=⟨(),fun _=>(),fun _ _ _ _=>(),fun _ _=>()⟩
section
variable  {δ β : Type}
def pn (M:Mk δ β)(F:m5 δ β)(tab:Tab)(D:St δ β)(dst:Option Nat)(t:Nat):Option (St δ β):=
 match tab.ti t,dst with
 |some ti,some d=>if d<D.length then some (ba D (some d) (.box F.box (ti.zero.map (T.inj M.nil))))else none
 |_,_=>none
def Bw (M:Mk δ β)(F:m5 δ β)(D:St δ β)(dst:Option Nat)(x:Operand)(tk:Bool):Option (St δ β):=
 match cellsOf M D x tk,dst with
 |some (_,us,D1),some d=>if d<D1.length then some (ba D1 (some d) (.box F.box us))else none
 |_,_=>none
def pv (D:St δ β)(dst:Option Nat)(x:Operand)(i:Nat):Option (St δ β):=
 match x,dst with
 | .tmp t,some d =>
  match D[t]? with
  |some (.tup rs)=>
   match rs[i]? with
   |some (g,ts)=>
    if d<D.length∧ts.all T.noLent then
     (iR g ts).map fun s=>ba (D.set t (.tup (rs.set i (g,ts.map T.hole)))) (some d) s
    else none
   |none=>none
  |_=>none
 |_,_=>none
def lQ (D:St δ β)(x:Operand):Option Nat :=
 match x with
 | .tmp t=>(match D[t]? with|some (.box _ _)=>some t|some (.pb h 0)=>some h|_=>none)
 |_=>none
def oX (D:St δ β):List Operand→Option (List Nat)|[]=>some []|x::xs=>(lQ D x).bind fun h=>(oX D xs).map fun hs=>h::hs
def xK (D:St δ β)(f:FuncId)(xs:List Operand):Option (Sl δ β):=(oX D xs).map fun hs=>.clo (.fn f) hs
end
variable  {P : Program}{tab : Tab}
theorem kz (w:World)(e:TypeId)(cs:Array Value):(newRow e cs).run P w = .ok ⟨w.heap.size,0,none⟩ (w.alloc (.cells cs e)):=by simp[newRow]
theorem BQ (ok:bz P tab){cx:Cx}{D D':DSt}{a:Act}{w:World}(I:Inv cx D [] a.tmps w){dst:Option Nat}{t:Nat}(e:pn mkD (frD w) tab D dst t=some D'):
  ∃y w',(Instr.alloc t true (.tuple #[])).run P w = .ok y w'∧Inv cx D' [] (a.put dst y).tmps w':=by
 unfold pn at e;split at e
 case h_2=>cases e
 rename_i ti d b;split at e
 case isFalse=>cases e
 rename_i hd;cases e;obtain⟨z,c,f,g⟩:=xv (Tab.ok ok b) w;have G:=lr (P:=P) (t:=t) (w:=w) (cx:=cx) (D:=D) (ys:=z.cells.toList) g;rw[←f]at G;have h:=I.newBox (a:=a) (e:=t) G hd;refine⟨_,_,?_,h⟩;simp[Instr.alloc,c,newVar,kz]
theorem Qo {cx:Cx}{D D':DSt}{a:Act}{w:World}(I:Inv cx D [] a.tmps w){dst:Option Nat}{t:Nat}{x:Operand}{tk:Bool}(e:Bw mkD (frD w) D dst x tk=some D'):
  ∃y w',(Instr.box t (a.eval x)).run P w = .ok y w'∧Inv cx D' [] (a.put dst y).tmps w':=by
 unfold Bw at e;split at e
 case h_2=>cases e
 rename_i g us D1 d hc;split at e
 case isFalse=>cases e
 rename_i hd;cases e;obtain⟨ys,i,f,G,hv⟩:=I.cellsOf hc;have b:(a.eval x).cells=ys.toArray:=by
  cases g with
  |true=>simp only[co,WN]at hv;rw[hv];rfl
  |false =>
   have:ys=[a.eval x]:=by simpa[co]using hv
   have c:=G.v.cells1 _ (by rw[this];simp:a.eval x∈ys);rw[this];cases h:a.eval x<;>first|rfl|(rw[h]at c;simp[Value.oneCell']at c)
 refine⟨_,_,?_,f.newBox (e:=t) G hd⟩;simp[Instr.box,newVar,kz,b]
section
variable  {δ β : Type}
def cz (M:Mk δ β)(D:St δ β)(pl:List (Nat×Nat)):List (Nat×Operand)→List (T δ)→Option (List (T δ))
 |[],ts=>some ts
 |(i,x)::r,ts =>
  match pl[i]?,cellsCopy M D x with
  |some (off,size),some (_,us)=>if us.length=size∧off+us.length≤ts.length then cz M D pl r (aD ts off us)else none
  |_,_=>none
def m9 (M:Mk δ β)(tab:Tab)(D:St δ β)(t:Nat)(a:List (Nat×Operand)):Option (Sl δ β):=
 match tab.ti t,tab.pl t with
 |some ti,some pl=>(cz M D pl a (ti.zero.map (T.inj M.nil))).map fun ts=>.agg ts
 |_,_=>none
end
theorem Got.splice {cx:Cx}{D:DSt}{w:World}{ts us:List DT}{xs ys:List Value}(G:Got cx D w [] ts xs)(H:Got cx D w [] us ys){off:Nat}(c:off+us.length≤ts.length):
  Got cx D w [] (aD ts off us) (aD xs off ys):=by
 refine⟨G.v.splice H.v c,fun t a=>?_,fun t a=>?_,fun t a=>?_,fun b=>?_⟩
 ·rcases gR a with h|h
  ·exact G.holds t h
  ·exact H.holds t h
 ·rcases gR a with h|h
  ·exact G.own t h
  ·exact H.own t h
 ·rcases gR a with h|h
  ·exact G.kind t h
  ·exact H.kind t h
 ·have d:=pQ ownR ts us off b;have e:=G.cnt b;have f:=H.cnt b;rw[cO]at *;omega
theorem ur {cx:Cx}{D:DSt}{a:Act}{w:World}(I:Inv cx D [] a.tmps w)(pl:List (Nat×Nat)):∀(b:List (Nat×Operand)){ts ts':List DT}{xs:List Value},Got cx D w [] ts xs →
  cz mkD D pl b ts=some ts'→∃ys,Instr.fill (pl.toArray[·]?) xs.toArray (b.map fun p=>(p.1,a.eval p.2))=some ys.toArray∧Got cx D w [] ts' ys
 |[],ts,ts',xs,G,e=>by cases e;exact⟨xs,rfl,G⟩
 |(i,x)::r,ts,ts',xs,G,e=>by
  simp only[cz]at e;split at e
  case h_2=>cases e
  rename_i off size g us h hc;split at e
  case isFalse=>cases e
  rename_i j;obtain⟨ys,H,hv⟩:=I.cellsCopy hc;have c:(a.eval x).cells=ys.toArray:=by
   cases g with
   |true=>simp only[co,WN]at hv;rw[hv];rfl
   |false =>
    have:ys=[a.eval x]:=by simpa[co]using hv
    have d:=H.v.cells1 _ (by rw[this];simp:a.eval x∈ys);rw[this];cases k:a.eval x<;>first|rfl|(rw[k]at d;simp[Value.oneCell']at d)
  obtain⟨l,d,m⟩:=ur I pl r (G.splice H j.2) e;refine⟨l,?_,m⟩;have n:=G.v.1;have o:=H.v.1;have f:pl.toArray[i]?=some (off,size):=by simpa using h
  simp only[Wv,Instr.fill,f,c];rw[Wo (by simp;omega)];rw[iu ys.toArray off xs.toArray (by simp;omega)];simpa using d
theorem BT {P:Program}{tab:Tab}(ok:bz P tab){cx:Cx}{D:DSt}{a:Act}{w:World}(I:Inv cx D [] a.tmps w){t:Nat}{c:Array (Nat×Operand)}{s:DSl}(e:m9 mkD tab D t c.toList=some s):
  ∃y,(Instr.build t (c.map fun(i,x)=>(i,a.eval x))).run P w = .ok y w∧Tells cx D w s y:=by
 unfold m9 at e;split at e
 case h_2=>cases e
 rename_i ti pl g h;rw[We]at e;obtain⟨ts,j,rfl⟩:=e;obtain⟨i,d,z,g1,o,g3,g4,p,k,q,l⟩:=gK (Tab.ok ok g);have G:=lr (P:=P) (t:=t) (w:=w) (cx:=cx) (D:=D) (ys:=z.cells.toList) l;rw[←k]at G;obtain⟨ys,m,H⟩:=ur I pl c.toList G j;refine⟨.agg ys.toArray,run_build w t _ _ ?_,⟨⟨ys.toArray,rfl,by simpa using H.v⟩,⟨H.holds,H.own,trivial⟩,H.kind,?_⟩⟩
 ·have f:=Tab.okPl ok h;unfold rx at f;split at f
  ·rename_i fs n;unfold Program.built;rw[g1,n];simp only[g3,f];simpa using m
  ·cases f
 ·have:∀b,(ts.flatMap ownR).count b=0:=fun b=>by have:=H.cnt b;rw[cO]at this;omega
  show ts.flatMap ownR=[];rw[Xr];intro b hb;have:=this b;have:=Wz.2 hb;omega
theorem Inv.swap {cx:Cx}{D:DSt}{P Q:List (DT×Value)}{tm:Array Value}{w:World}(I:Inv cx D P tm w){t:Nat}{d s:DSl}(c:D[t]?=some d)(i:∀s'∈D,¬cQ t s')(j:¬cQ t s)
  (hv:VS D s (tm.getD t undef)) (l:MemS w s) (m:eW cx D s)
  (n:∀p∈Q,VT p.1 p.2∧Holds w p.1∧(p.1.isOwn=true→OwnT w p.1)∧(p.1.isOwn=false→∀x∈bl p.1,cx.far x))
  (o:∀b,(ownBl s).count b+aV Q b≤(ownBl d).count b+aV P b):Inv cx (D.set t s) Q tm w:=by
 have f:t<D.length:=by
  rcases Wl t D.length with g|g
  ·exact g
  ·rw[Wh g]at c;cases c
 have a:∀b,bv (D.set t s) b+aV Q b≤bv D b+aV P b:=by intro b;have k:=bR ownBl s b D t d c;have q:=o b;unfold bv;omega
 refine⟨by have:=I.size;simpa using this,fun u s' hs=>?_,fun s' hs=>?_,fun s' hs=>?_,n,fun b=>?_,fun b hb=>?_,I.frame⟩
 ·by_cases e:u=t
  ·subst e;rw[Wp f]at hs;cases hs;exact zM j hv
  ·rw[Ws (fun h=>e h.symm)]at hs;exact zM (i s' (Wd hs)) (I.val u s' hs)
 ·rcases Xj hs with h|rfl
  ·exact I.mem s' h
  ·exact l
 ·rcases Xj hs with h|rfl
  ·exact sj (i s' h) (I.kind s' h)
  ·exact sj j m
 ·have k:=a b;have q:=I.once b;omega
 ·have k:=a b;exact I.bnd b (by omega)
theorem Inv.tup_refs {cx:Cx}{D:DSt}{P:List (DT×Value)}{tm:Array Value}{w:World}(I:Inv cx D P tm w){t:Nat}{rs:List (Bool×List DT)}(x:D[t]?=some (.tup rs)){s:DSl}{y:Value}(hv:VS D s y)(q:eW cx D s):¬cQ t s:=by
 have hc:∀c,av D t c=none:=fun c=>by simp[av,x,aZ]
 have j:∀(us:List DT),(∀u∈us,bK cx D u)→¬ ∃u∈us,∃c o d z r,u = .s (.lent t c o) d z r:=by rintro us h ⟨u,v,c,o,d,z,r,rfl⟩;obtain⟨t',m,_⟩:=h _ v;rw[hc]at m;cases m
 intro l;cases s with
 |any=>exact l
 |one u=>obtain⟨c,o,d,z,r,rfl⟩:=l;exact j [_] (fun u v=>q u (by simpa[aj]using v)) ⟨_,WP _,c,o,d,z,r,rfl⟩
 |agg ts=>exact j ts q l
 |box b ts=>exact j ts q l
 |al h c st lo len =>simp only[cQ]at l;subst l;obtain⟨d,z,n,a,⟨t',m,_⟩,_⟩:=hv;rw[hc]at m;cases m
 |pe h c st i off =>simp only[cQ]at l;subst l;obtain⟨d,z,n,⟨t',m,_⟩,_⟩:=hv;rw[hc]at m;cases m
 |pb h off =>simp only[cQ]at l;subst l;obtain⟨b,ts,m,_⟩:=hv;rw[x]at m;cases m
 |im k b ts off =>
  cases k with
  |own=>exact l
  |far=>exact l
  |lent h c o =>simp only[cQ]at l;subst l;obtain⟨t',m,_⟩:=q;rw[hc]at m;cases m
 |fni f caps=>exact l
 |clo f hs =>
  obtain⟨B,m,C,_⟩:=hv;obtain⟨i,hi⟩:=Wm l;obtain⟨b,hb⟩:∃b,B[i]?=some b:=by
   have:i<hs.length:=by
    rcases Wl i hs.length with g|g
    ·exact g
    ·rw[Wh g]at hi;cases hi
   exact⟨_,Wg (by omega)⟩
  obtain⟨ts,A⟩:=C i t b hi hb;rw[x]at A;cases A
 |tup rs =>obtain⟨p,F,u,v,c,o,d,z,r,e⟩:=l;exact j (aj (.tup rs)) q ⟨u,Wq.2 ⟨p,F,v⟩,c,o,d,z,r,e⟩
theorem NY {t:DT}{y:Value}(h:VT t y):VT t.hole y:=by
 cases t with
 |s k d z r=>cases k<;>first|exact h|exact h.one
 |_=>exact h
theorem SE (t:DT):t.hole.isOwn=false:=by
 cases t with
 |s k d z r=>cases k<;>rfl
 |_=>rfl
theorem OU (t:DT):t.hole=t∨t.hole = .any:=by
 cases t with
 |s k d z r=>cases k<;>first|(left;rfl)|(right;rfl)
 |_=>left;rfl
theorem uj {cx:Cx}{D D':DSt}{t:DT}(a:t.noLent=true)(h:bK cx D t):bK cx D' t:=by
 cases t with
 |s k d z r=>cases k<;>first|exact h|cases a
 |_=>trivial
theorem Hx {cx:Cx}{D D':DSt}{a:Act}{w:World}(I:Inv cx D [] a.tmps w){dst:Option Nat}{x:Operand}{i:Nat}(e:pv D dst x i=some D'):
  ∃y,(Instr.extract (a.eval x) i).run P w = .ok y w∧Inv cx D' [] (a.put dst y).tmps w:=by
 unfold pv at e;split at e
 case h_2=>cases e
 rename_i t d;split at e
 case h_2=>cases e
 rename_i rs hD;split at e
 case h_2=>cases e
 rename_i g ts hi;split at e
 case isFalse=>cases e
 rename_i hc;rw[We]at e;obtain⟨s,hs,rfl⟩:=e;obtain⟨hd,J⟩:=hc;rw[Wt]at J;have F:=Wd hD;obtain⟨A,V,N,l⟩:=I.val t _ hD;have L:=I.mem _ F;have M:∀u∈aj (.tup rs:DSl),bK cx D u:=I.kind _ F;have X:i<rs.length:=by
  rcases Wl i rs.length with q|q
  ·exact q
  ·rw[Wh q]at hi;cases hi
 have Y:A.toList[i]?=some A.toList[i]:=Wg (by omega);have B:=l i _ _ hi Y;obtain⟨ys,hv,K⟩:∃ys,co g A.toList[i] ys∧VCells ts ys:=by
  unfold VPart at B;cases g with
  |true =>simp only[WN]at B;obtain⟨cs,n,o⟩:=B;exact⟨cs.toList,by simpa[co]using n,o⟩
  |false =>simp only[WC,W2]at B;obtain⟨t',n,o⟩:=B;subst n;exact⟨[A.toList[i]],by simp[co],.one o⟩
 have m:∀u∈ts,u∈aj (.tup rs:DSl):=fun u c=>Wq.2 ⟨_,Wd hi,c⟩
 have H:∀(j:Nat)(r:Bool×List DT),(rs.set i (g,ts.map T.hole))[j]?=some r→(j=i∧r=(g,ts.map T.hole))∨(j≠i∧rs[j]?=some r):=by
  intro j r hj;by_cases e:j=i
  ·subst e;rw[Wp X]at hj;cases hj;exact .inl ⟨rfl,rfl⟩
  ·rw[Ws (fun h=>e h.symm)]at hj;exact .inr ⟨e,hj⟩
 have f:∀u∈(rs.set i (g,ts.map T.hole)).flatMap (·.2),u∈aj (.tup rs:DSl)∨u = .any:=by
  intro u c;obtain⟨r,hr,c⟩:=Wq.1 c;obtain⟨j,hj⟩:=Wm hr;rcases H j r hj with⟨_,rfl⟩|⟨_,hj⟩
  ·obtain⟨v,C,rfl⟩:=Wx.1 c;rcases OU v with q|q
   ·rw[q];exact .inl (m v C)
   ·exact .inr q
  ·exact .inl (Wq.2 ⟨r,Wd hj,c⟩)
 have hV:VS D (.tup (rs.set i (g,ts.map T.hole))) (a.tmps.getD t undef):=by
  refine⟨A,V,by simpa using N,fun j r v hj C=>?_⟩;rcases H j r hj with⟨rfl,rfl⟩|⟨_,hj⟩
  ·have:=l j _ v hi C;unfold VPart at this ⊢;cases g with
   |true =>simp only[WN]at this ⊢;obtain⟨cs,n,o,h3⟩:=this;refine⟨cs,n,by simpa using o,fun k u y M V=>?_⟩;rw[Wr,We]at M;obtain⟨u',Z,rfl⟩:=M;exact NY (h3 k u' y Z V)
   |false =>simp only[WC,W2]at this ⊢;obtain⟨t',n,o⟩:=this;subst n;exact⟨t'.hole,rfl,NY o⟩
  ·exact l j r v hj C
 have hK:eW cx D (.tup (rs.set i (g,ts.map T.hole)):DSl):=fun u c=>by
  rcases f u c with q|q
  ·exact M u q
  ·subst q;trivial
 have hM:MemS w (.tup (rs.set i (g,ts.map T.hole)):DSl):=by
  refine⟨fun u c=>?_,fun u c W=>?_,trivial⟩
  ·rcases f u c with q|q
   ·exact L.1 u q
   ·subst q;exact .any
  ·rcases f u c with q|q
   ·exact L.2.1 u q W
   ·subst q;cases W
 have O:∀p∈ts.zip ys,p.1∈ts∧VT p.1 p.2:=by intro p B;obtain⟨j,hj⟩:=Wm B;rw[Ya]at hj;exact⟨Wd hj.1,K.2 j _ _ hj.1 hj.2⟩
 have R:=oZ ts ys K.1;have I1:=I.swap (Q:=ts.zip ys) hD (fun s' S=>by obtain⟨u,c⟩:=Wm S;exact I.tup_refs hD (I.val u s' c) (I.kind s' S)) (I.tup_refs hD hV hK) hV
  hM hK
  (fun p B=>by
   obtain⟨n,o⟩:=O p B;refine⟨o,L.1 _ (m _ n),L.2.1 _ (m _ n),fun W x hx=>?_⟩;have Z0:=M _ (m _ n);have Z1:=J _ n;generalize p.1=u at *;cases u with
   |v x=>simp[bl]at hx
   |any=>simp[bl]at hx
   |s k d z r=>cases k<;>first|exact Z0 x hx|(cases Z1;done)|(cases W;done))
  (fun b=>by
   have n:(ts.flatMap ownR).count b+(ownBl (.tup (rs.set i (g,ts.map T.hole)):DSl)).count b=((ts.map T.hole).flatMap ownR).count b+(ownBl (.tup rs:DSl)).count b :=
    bR (fun r:Bool×List DT=>r.2.flatMap ownR) (g,ts.map T.hole) b rs i _ hi
   have o:((ts.map T.hole).flatMap ownR)=[]:=by rw[WB];intro u c;obtain⟨v,_,rfl⟩:=Wx.1 c;exact fz (SE v)
   rw[o,Y6]at n;rw[R b,cO];omega)
 have G:Got cx (D.set t (.tup (rs.set i (g,ts.map T.hole)))) w (ts.zip ys) ts ys :=
  ⟨K,fun u c=>L.1 u (m u c),fun u c=>L.2.1 u (m u c),fun u c=>uj (J u c) (M u (m u c)),fun b=>by rw[R b];exact WU _⟩
 have U:=I1.putGot (a:=a) G hv hs (dst:=some d) (fun t' h=>by cases h;simpa using hd) rfl;refine⟨A.toList[i],?_,U⟩;have Z2:a.eval (.tmp t)= .tuple A:=V;rw[Z2];have:A[i]?=some A.toList[i]:=by simp
 simp[Instr.extract,this]
section
variable  {δ β : Type}
def lc (M:Mk δ β)(D:St δ β)(z:Nat):List (Nat×Operand)→List (List (T δ))→Option (List (List (T δ)))
 |[],rows=>some rows
 |(i,x)::r,rows =>
  match cellsCopy M D x with
  |some (_,us)=>if us.length=z∧i<rows.length∧us.all T.fine=true then lc M D z r (rows.set i us)else none
  |none=>none
def fb (M:Mk δ β)(F:m5 δ β)(tab:Tab)(D:St δ β)(dst:Option Nat)(t len:Nat)(a:List (Nat×Operand)):Option (St δ β):=
 match tab.ti t,dst with
 |some ⟨_,_,_,.slice e⟩,some d =>
  match tab.ti e with
  |some b =>
   if d<D.length∧b.size≠0∧b.zero.length=b.size∧len*b.size≤2 ^ 24 then
    (lc M D b.size a (List.replicate len (b.zero.map (T.inj M.nil)))).map fun rows=>ba D (some d) (.one (.s .own (F.row len) b.size rows))
   else none
  |none=>none
 |_,_=>none
def fd (M:Mk δ β)(F:m5 δ β)(tab:Tab)(D:St δ β)(dst:Option Nat)(t:Nat)(l c:Operand):Option (St δ β):=
 match tab.ti t,dst,(opd M.nil D l).bind intOfSl,(opd M.nil D c).bind intOfSl with
 |some ⟨_,_,_,.slice e⟩,some d,some n,some k =>
  match tab.ti e with
  |some a =>
   if d<D.length∧a.size≠0∧a.zero.length=a.size then
    if 0≤n∧n≤k∧(a.bytes:Int)*k≤281474976710656∧k≤4611686018427387904 then
     some (ba D (some d) (.one (.s .own (F.row k.toNat) a.size (List.replicate n.toNat (a.zero.map (T.inj M.nil))))))
    else none
   else none
  |none=>none
 |_,_,_,_=>none
end
structure RowsAre (z:Nat)(rows:List (List DT))(cs:List Value):Prop where
 len:cs.length=rows.length*z
 row:∀(i:Nat)(row:List DT),rows[i]?=some row→row.length=z
 val:∀(i:Nat)(row:List DT)(j:Nat)(t:DT),rows[i]?=some row→row[j]?=some t→∃y,cs[i*z+j]?=some y∧VT t y
theorem RowsAre.set {z:Nat}{rows:List (List DT)}{cs:List Value}(h:RowsAre z rows cs){i:Nat}(hi:i<rows.length){us:List DT}{ys:List Value}(hv:VCells us ys)(hz:us.length=z):
  i*z+ys.length≤cs.length∧RowsAre z (rows.set i us) (aD cs (i*z) ys):=by
 have f:(i+1)*z≤rows.length*z:=Xq _ hi;rw[XA,Nat.one_mul]at f;have e:=hv.1;have d:i*z+ys.length≤cs.length:=by rw[h.len];omega
 refine⟨d,⟨by rw[lE d,h.len];simp,fun b row a=>?_,fun b row j t a c=>?_⟩⟩
 ·by_cases q:b=i
  ·subst q;rw[Wp hi]at a;cases a;exact hz
  ·rw[Ws (fun g=>q g.symm)]at a;exact h.row b row a
 ·by_cases q:b=i
  ·subst q;rw[Wp hi]at a;cases a;have l:j<us.length:=by
    rcases Wl j us.length with g|g
    ·exact g
    ·rw[Wh g]at c;cases c
   refine⟨ys[j]'(by omega),?_,hv.2 j t _ c (Wg (by omega))⟩;rw[eP d,Wo (by omega),Wa (by omega),show b*z+j-b*z=j by omega];exact Wg (by omega)
  ·rw[Ws (fun g=>q g.symm)]at a;obtain⟨y,m,n⟩:=h.val b row j t a c;refine⟨y,?_,n⟩;have k:j<z:=by
    have:=h.row b row a;rcases Wl j row.length with g|g
    ·omega
    ·rw[Wh g]at c;cases c
   rw[lF d ?_]
   ·exact m
   ·intro o;rcases Yi b i with g|g|g
    ·have:=pA g k;omega
    ·exact q g
    ·have:=pA (j:=ys.length-1) (z:=z) g (by omega);omega
theorem RowsAre.init {e:List DT}{a:Array Value}(hv:VCells e a.toList)(hz:a.size≠0)(n:Nat):
  RowsAre a.size (List.replicate n e) ((Array.range (n*a.size)).map (fun i=>a[i % a.size]!)).toList:=by
 have l:e.length=a.size:=by have:=hv.1;simpa using this
 refine⟨by simp,fun i row hr=>?_,fun i row j t hr f=>?_⟩
 ·have:=Wd hr;rw[Xf this];exact l
 ·have h:i<n:=by
   rcases Wl i n with g|g
   ·exact g
   ·rw[Wh (by simpa using g)]at hr;cases hr
  have c:row=e:=Xf (Wd hr);subst c;have b:j<a.size:=by
   rcases Wl j row.length with g|g
   ·omega
   ·rw[Wh g]at f;cases f
  have k:i*a.size+j<n*a.size:=by have:(i+1)*a.size≤n*a.size:=Xq _ h;rw[XA]at this;omega
  have d:(i*a.size+j) % a.size=j:=by rw[Nat.mul_comm,Nat.mul_add_mod];exact Nat.mod_eq_of_lt b
  refine⟨a[j],?_,hv.2 j t _ f (by simp[b])⟩;simp only[Array.toList_map,Array.toList_range,Wr,Xu k,Wc,d];simp[b]
structure CO (w:World)(t:DT):Prop where
 fine:t.fine=true
 holds:Holds w t
 own:t.isOwn=true→OwnT w t
 bl:bl t=[]
theorem Got.bare {cx:Cx}{D:DSt}{w:World}{ts:List DT}{ys:List Value}(G:Got cx D w [] ts ys)(hf:∀t∈ts,t.fine=true):∀t∈ts,CO w t:=by
 intro t a;refine⟨hf t a,G.holds t a,G.own t a,?_⟩;rcases vZ (hf t a)with h|h
 ·rw[Xr];intro b hb;have c:=G.cnt b;rw[cO]at c;have d:0<(ts.flatMap ownR).count b:=Wz.2 (Wq.2 ⟨t,a,by simp only[ownR,h,WN];exact hb⟩);omega
 ·exact h
theorem mD {cx:Cx}{D:DSt}{w:World}{P:List (DT×Value)}{us:List DT}{ys:List Value}{g:Bool}{y:Value}(H:Got cx D w P us ys)(hv:co g y ys):y.cells=ys.toArray:=by
 cases g with
 |true=>simp only[co,WN]at hv;rw[hv];rfl
 |false =>
  have:ys=[y]:=by simpa[co]using hv
  have a:=H.v.cells1 _ (by rw[this];simp:y∈ys);rw[this];cases y<;>first|rfl|(simp[Value.oneCell']at a)
theorem pK {cx:Cx}{D:DSt}{a:Act}{w:World}(I:Inv cx D [] a.tmps w)(z:Nat):∀(c:List (Nat×Operand)){rows b:List (List DT)}{cs:List Value},RowsAre z rows cs →
  (∀row∈rows,∀t∈row,CO w t)→lc mkD D z c rows=some b →
  ∃d,Instr.fill (fun i=>some (i*z,z)) cs.toArray (c.map fun p=>(p.1,a.eval p.2))=some d.toArray∧RowsAre z b d∧b.length=rows.length∧∀row∈b,∀t∈row,CO w t
 |[],rows,b,cs,R,B,e=>by cases e;exact⟨cs,rfl,R,rfl,B⟩
 |(i,x)::r,rows,b,cs,R,B,e=>by
  simp only[lc]at e;split at e
  case h_2=>cases e
  rename_i g us hc;split at e
  case isFalse=>cases e
  rename_i h;obtain⟨ys,H,hv⟩:=I.cellsCopy hc;have f:=mD H hv;have hf:∀t∈us,t.fine=true:=by have:=h.2.2;rwa [Wt]at this
  obtain⟨j,l⟩:=R.set h.2.1 H.v h.1;obtain⟨d,m,n,o,s⟩:=pK I z r l (fun row u t k=>by
   rcases Xj u with q|q
   ·exact B row q t k
   ·subst q;exact H.bare hf t k) e
  refine⟨d,?_,n,by rw[o];simp,s⟩;have y:=H.v.1;simp only[Wv,Instr.fill,f];rw[Wo (by simp;omega)];rw[iu ys.toArray (i*z) cs.toArray (by simpa using j)];simpa using m
theorem CP (ok:bz P tab){cx:Cx}{D D':DSt}{a:Act}{w:World}(I:Inv cx D [] a.tmps w){dst:Option Nat}{t len:Nat}{c:Array (Nat×Operand)}
  (e:fb mkD (frD w) tab D dst t len c.toList=some D'):∃y w',(Instr.buildSlice t len (c.map fun(i,x)=>(i,a.eval x))).run P w = .ok y w'∧Inv cx D' [] (a.put dst y).tmps w':=by
 unfold fb at e;split at e
 case h_2=>cases e
 rename_i sz U ze m d H;split at e
 case h_2=>cases e
 rename_i l s;split at e
 case isFalse=>cases e
 rename_i hc;rw[We]at e;obtain⟨rows,V,rfl⟩:=e;obtain⟨hd,J,K,O⟩:=hc;have W:=gk (Tab.ok ok H) rfl;obtain⟨z,g1,L,g3⟩:=xv (Tab.ok ok s) w;have hs:=md (Tab.ok ok s) w;have G:=lr (P:=P) (t:=m) (w:=w) (cx:=cx) (D:=D) (ys:=z.cells.toList) g3;rw[←L]at G;have A:z.cells.size=l.size:=by rw[←K,L];simp[ek]
 have q:∀t∈l.zero.map (T.inj nilD),t.fine=true:=by intro t r;rw[L]at r;simp only[Wx,ek,Xm]at r;obtain⟨u,⟨j,hj,rfl⟩,rfl⟩:=r;unfold zT;split<;>rfl
 have Q:=RowsAre.init G.v (by omega) len;rw[A]at Q;obtain⟨f,f1,R,f3,B⟩:=pK I l.size c.toList Q (fun row M t r=>by have:=Xf M;subst this;exact G.bare q t r) V;have k:rows.length=len:=by rw[f3];simp
 have C:(Instr.buildSlice t len (c.map fun(i,x)=>(i,a.eval x))).run P w = .ok (.slice (some ⟨w.heap.size,0,none⟩) len len) (w.alloc (.cells f.toArray m)):=by
  have n:Instr.fill (fun i=>some (i*l.size,l.size)) ((Array.range (len*l.size)).map fun i=>z.cells[i % l.size]!) (c.toList.map fun p=>(p.1,a.eval p.2))=some f.toArray:=by rw[Array.toArray_toList]at f1;exact f1
  simp only[Instr.buildSlice,run_underlying W,Sem.run_bind,Result.andThen_ok,hs];rw[Wo (by omega)];by_cases F:len*l.size=0
  ·have X:len=0:=by
    rcases Nat.mul_eq_zero.1 F with h|h
    ·exact h
    ·exact absurd h J
   rw[F]at n;have Y:(Array.range 0).map (fun i=>z.cells[i % l.size]!)= #[]:=by simp
   rw[Y]at n;simp only[F,WN,Sem.run_pure,Result.andThen_ok];have Z:∀N:Array Value,(Array.range 0).map (fun i=>N[i % N.size]!)= #[]:=fun N=>by simp
   simp only[Z];simp[n,kz]
  ·simp[F,g1,A,n,kz]
 have g:=Grew.alloc w (.cells f.toArray m);have o:(w.alloc (.cells f.toArray m)).heap[w.heap.size]?=some (.cells f.toArray m (0,0)):=by show(w.heap.push _)[w.heap.size]?=_;simp
 have S:∀(i:Nat)(row:List DT)(j:Nat)(t:DT),rows[i]?=some row→row[j]?=some t→CO w t:=fun i row j t hi hj=>B row (Wd hi) t (Wd hj)
 have hH:Holds (w.alloc (.cells f.toArray m)) (.s .own ((frD w).row len) l.size rows):=by refine .s _ _ _ _ rfl rfl _ m (0,0) o (by simp[frD,k]) R.row (fun i row j t hi hj=>?_) (fun i row j t hi hj=>(S i row j t hi hj).holds.frame fun b _ hb=>g.same b hb);obtain⟨y,y1,y2⟩:=R.val i row j t hi hj;exact⟨y,by simpa[frD]using y1,y2⟩
 have hO:OwnT (w.alloc (.cells f.toArray m)) (.s .own ((frD w).row len) l.size rows):=by refine .s _ _ _ rfl rfl _ m 0 0 o (by simp[frD,k]) (by simp[frD,R.len,k]) (fun x _ _ h=>by omega) (fun i row j t hi hj=>?_);have:=S i row j t hi hj;exact(sk this.fine this.own).frame fun b _ hb=>g.same b hb
 refine⟨_,_,C,I.newRows (P:=[]) g (by simp) (d:=(frD w).row len) ⟨rfl,rfl⟩ hH hO (fun b=>?_) hd (by simp[VT,Dec.addr,frD,k])⟩;have:rows.flatMap (fun x=>x.flatMap Am.bl)=[]:=by rw[WB];intro row M;rw[WB];intro t r;exact(B row M t r).bl
 rw[this];simp
structure Qg (w w':World)(t:DT)(v:Value):Prop where
 val:VT t v
 holds:Holds w' t
 own:OwnT w' t
 once:∀b,(bl t).count b≤1
 new:∀b∈bl t,w.heap.size≤b∧b<w'.heap.size
theorem Ff (ok:bz P tab){cx:Cx}{D D':DSt}{a:Act}{w:World}(I:Inv cx D [] a.tmps w){dst:Option Nat}{t len:Nat}{c:Array (Nat×Operand)}
  (e:fb mkD (frD w) tab D dst t len c.toList=some D'):∃y w' d Q z rows,dst=some d∧D'=ba D (some d) (.one (.s .own Q z rows))∧(Instr.buildSlice t len (c.map fun(i,x)=>(i,a.eval x))).run P w = .ok y w'∧Grew w w'∧Qg w w' (.s .own Q z rows) y:=by
 unfold fb at e;split at e
 case h_2=>cases e
 rename_i sz W ze m d J;split at e
 case h_2=>cases e
 rename_i l A;split at e
 case isFalse=>cases e
 rename_i hc;rw[We]at e;obtain⟨rows,X,rfl⟩:=e;obtain⟨hd,K,L,S⟩:=hc;have Y:=gk (Tab.ok ok J) rfl;obtain⟨z,g1,M,g3⟩:=xv (Tab.ok ok A) w;have hs:=md (Tab.ok ok A) w;have G:=lr (P:=P) (t:=m) (w:=w) (cx:=cx) (D:=D) (ys:=z.cells.toList) g3;rw[←M]at G;have C:z.cells.size=l.size:=by rw[←L,M];simp[ek]
 have r:∀t∈l.zero.map (T.inj nilD),t.fine=true:=by intro t s;rw[M]at s;simp only[Wx,ek,Xm]at s;obtain⟨u,⟨j,hj,rfl⟩,rfl⟩:=s;unfold zT;split<;>rfl
 have U:=RowsAre.init G.v (by omega) len;rw[C]at U;obtain⟨f,f1,R,f3,B⟩:=pK I l.size c.toList U (fun row N t s=>by have:=Xf N;subst this;exact G.bare r t s) X;have k:rows.length=len:=by rw[f3];simp
 have F:(Instr.buildSlice t len (c.map fun(i,x)=>(i,a.eval x))).run P w = .ok (.slice (some ⟨w.heap.size,0,none⟩) len len) (w.alloc (.cells f.toArray m)):=by
  have n:Instr.fill (fun i=>some (i*l.size,l.size)) ((Array.range (len*l.size)).map fun i=>z.cells[i % l.size]!) (c.toList.map fun p=>(p.1,a.eval p.2))=some f.toArray:=by rw[Array.toArray_toList]at f1;exact f1
  simp only[Instr.buildSlice,run_underlying Y,Sem.run_bind,Result.andThen_ok,hs];rw[Wo (by omega)];by_cases H:len*l.size=0
  ·have Z:len=0:=by
    rcases Nat.mul_eq_zero.1 H with h|h
    ·exact h
    ·exact absurd h K
   rw[H]at n;have e0:(Array.range 0).map (fun i=>z.cells[i % l.size]!)= #[]:=by simp
   rw[e0]at n;simp only[H,WN,Sem.run_pure,Result.andThen_ok];have e1:∀O:Array Value,(Array.range 0).map (fun i=>O[i % O.size]!)= #[]:=fun O=>by simp
   simp only[e1];simp[n,kz]
  ·simp[H,g1,C,n,kz]
 have g:=Grew.alloc w (.cells f.toArray m);have o:(w.alloc (.cells f.toArray m)).heap[w.heap.size]?=some (.cells f.toArray m (0,0)):=by show(w.heap.push _)[w.heap.size]?=_;simp
 have V:∀(i:Nat)(row:List DT)(j:Nat)(t:DT),rows[i]?=some row→row[j]?=some t→CO w t:=fun i row j t hi hj=>B row (Wd hi) t (Wd hj)
 have hH:Holds (w.alloc (.cells f.toArray m)) (.s .own ((frD w).row len) l.size rows):=by refine .s _ _ _ _ rfl rfl _ m (0,0) o (by simp[frD,k]) R.row (fun i row j t hi hj=>?_) (fun i row j t hi hj=>(V i row j t hi hj).holds.frame fun b _ hb=>g.same b hb);obtain⟨y,y1,y2⟩:=R.val i row j t hi hj;exact⟨y,by simpa[frD]using y1,y2⟩
 have hO:OwnT (w.alloc (.cells f.toArray m)) (.s .own ((frD w).row len) l.size rows):=by refine .s _ _ _ rfl rfl _ m 0 0 o (by simp[frD,k]) (by simp[frD,R.len,k]) (fun x _ _ h=>by omega) (fun i row j t hi hj=>?_);have:=V i row j t hi hj;exact(sk this.fine this.own).frame fun b _ hb=>g.same b hb
 have q:rows.flatMap (fun x=>x.flatMap Am.bl)=[]:=by rw[WB];intro row N;rw[WB];intro t s;exact(B row N t s).bl
 refine⟨_,_,d,(frD w).row len,l.size,rows,rfl,rfl,F,g,⟨by simp[VT,Dec.addr,frD,k],hH,hO,?_,fun b hb=>?_⟩⟩
 ·intro b;rw[cJ,q];simp only[frD,WC,W2,WG];rw[List.count_singleton];split<;>omega
 ·rw[cJ,q]at hb;simp[frD]at hb;subst hb;exact⟨WU _,by simp⟩
theorem Inv.opInt {cx:Cx}{D:DSt}{a:Act}{w:World}(I:Inv cx D [] a.tmps w){x:Operand}{n:Int}(h:(Am.opd mkD.nil D x).bind intOfSl=some n):∃k,a.eval x = .int k n:=by
 rw[Wb]at h;obtain⟨s,c,b⟩:=h;unfold intOfSl at b;split at b
 ·rename_i k n';cases b;exact⟨k,(I.opd c).val.1⟩
 ·cases b
theorem Et (ok:bz P tab){cx:Cx}{D D':DSt}{a:Act}{w:World}(I:Inv cx D [] a.tmps w){dst:Option Nat}{t:Nat}{l c:Operand}
  (e:fd mkD (frD w) tab D dst t l c=some D'):∃y w',(Instr.makeSlice t (a.eval l) (a.eval c)).run P w = .ok y w'∧Inv cx D' [] (a.put dst y).tmps w':=by
 unfold fd at e;split at e
 case h_2=>cases e
 rename_i sz U ze o d n k C V F;split at e
 case h_2=>cases e
 rename_i m H;split at e
 case isFalse=>cases e
 rename_i hc;split at e
 case isFalse=>cases e
 rename_i W;cases e;obtain⟨hd,X,J⟩:=hc;obtain⟨Y,Z,n3,n4⟩:=W;have hu:=gk (Tab.ok ok C) rfl;obtain⟨i,d',z,g1,Z0,K,g4,g5,L,g7,g3⟩:=gK (Tab.ok ok H);have G:=lr (P:=P) (t:=o) (w:=w) (cx:=cx) (D:=D) (ys:=z.cells.toList) g3;rw[←L]at G;have A:z.cells.size=m.size:=by rw[←J,L];simp[ek]
 have s:∀t∈m.zero.map (T.inj nilD),t.fine=true:=by intro t B;rw[L]at B;simp only[Wx,ek,Xm]at B;obtain⟨u,⟨j,hj,rfl⟩,rfl⟩:=B;unfold zT;split<;>rfl
 obtain⟨kl,M⟩:=I.opInt V;obtain⟨kc,N⟩:=I.opInt F;have f:=run_make w t o i z hu g1 K kl kc n k Y Z (by rw[g5];exact n3) (by omega);rw[←M, ←N]at f;have R:=RowsAre.init G.v (by omega) k.toNat;have O:(madeCells z.cells (k.toNat*i.size))=((Array.range (k.toNat*z.cells.size)).map (fun i=>z.cells[i % z.cells.size]!)):=by unfold madeCells;rw[g4,A]
 rw[O]at f;rw[A]at R f;generalize p:(Array.range (k.toNat*m.size)).map (fun i=>z.cells[i % m.size]!)=cells at R f;have g:=Grew.alloc w (.cells cells o);have q:(w.alloc (.cells cells o)).heap[w.heap.size]?=some (.cells cells o (0,0)):=by show(w.heap.push _)[w.heap.size]?=_;simp
 have Z1:n.toNat≤k.toNat:=by omega
 have r:∀(i:Nat)(row:List DT),(List.replicate n.toNat (m.zero.map (T.inj nilD)))[i]?=some row→(List.replicate k.toNat (m.zero.map (T.inj nilD)))[i]?=some row:=by
  intro i row h;rw[Yr]at h ⊢;split at h
  ·rw[Wa (by omega)];exact h
  ·cases h
 have Q:∀(i:Nat)(row:List DT)(j:Nat)(t:DT),(List.replicate n.toNat (m.zero.map (T.inj nilD)))[i]?=some row→row[j]?=some t→CO w t:=fun i row j t hi hj=>by have:=Xf (Wd hi);subst this;exact G.bare s t (Wd hj)
 have S:cells.size=k.toNat*m.size:=by rw[←p];simp
 have hH:Holds (w.alloc (.cells cells o)) (.s .own ((frD w).row k.toNat) m.size (List.replicate n.toNat (m.zero.map (T.inj nilD)))):=by refine .s _ _ _ _ rfl rfl _ o (0,0) q (by simp[frD];omega) (fun i row h=>R.row i row (r i row h)) (fun i row j t hi hj=>?_) (fun i row j t hi hj=>(Q i row j t hi hj).holds.frame fun b _ hb=>g.same b hb);obtain⟨y,y1,y2⟩:=R.val i row j t (r i row hi) hj;exact⟨y,by simpa[frD]using y1,y2⟩
 have hO:OwnT (w.alloc (.cells cells o)) (.s .own ((frD w).row k.toNat) m.size (List.replicate n.toNat (m.zero.map (T.inj nilD)))):=by refine .s _ _ _ rfl rfl _ o 0 0 q (by simp[frD];omega) (by simp[frD,S]) (fun x _ _ h=>by omega) (fun i row j t hi hj=>?_);have:=Q i row j t hi hj;exact(sk this.fine this.own).frame fun b _ hb=>g.same b hb
 refine⟨_,_,f,I.newRows (P:=[]) g (by simp) (d:=(frD w).row k.toNat) ⟨rfl,rfl⟩ hH hO (fun b=>?_) hd (by simp[VT,Dec.addr,frD])⟩;have:(List.replicate n.toNat (m.zero.map (T.inj nilD))).flatMap (fun x=>x.flatMap Am.bl)=[]:=by rw[WB];intro row hr;rw[WB];intro t B;obtain⟨i,hi⟩:=Wm hr;obtain⟨j,hj⟩:=Wm B;exact(Q i row j t hi hj).bl
 rw[this];simp
end
theorem Holds.cells {w:World}{k:Kd}{d:Dec}{z:Nat}{rows:List (List DT)}(h:Holds w (.s k d z rows))(x:0<z):
  ∃cs:List Value,RowsAre z rows cs∧(∀u∈cs,u.oneCell'=true)∧(rows=[]∧cs=[]∨d.nil=false∧d.sp=none∧∀j u,cs[j]?=some u→w.cell? ⟨d.b,d.o+j,none⟩=some u):=by
 cases h with
 |e=>exact⟨[],⟨by simp,fun i r h=>by simp at h,fun i r j t h=>by simp at h⟩,fun u h=>(by cases h),.inl ⟨rfl,rfl⟩⟩
 |s _ _ _ _ q hsp c e f hb hcap hz hv hh =>
  have at_:∀n,n<rows.length*z→∃t y,c[d.o+n]?=some y∧VT t y:=by
   intro n a;have hi:n/z<rows.length:=Nat.div_lt_of_lt_mul (by rw[Nat.mul_comm];exact a);have m:n % z<z:=Nat.mod_lt _ x;have D:=hz (n/z) rows[n/z] (Wg hi);obtain⟨y,l,p⟩:=hv (n/z) rows[n/z] (n % z) (rows[n/z][n % z]'(by omega)) (Wg hi) (Wg (by omega));have:n/z*z+n % z=n:=by rw[Nat.mul_comm];exact Nat.div_add_mod n z
   rw[Xz,this]at l;exact⟨_,y,l,p⟩
  refine⟨(List.range (rows.length*z)).map fun n=>(c[d.o+n]?).getD undef,⟨by simp,hz,fun i row j t hi m=>?_⟩,fun u C=>?_,.inr ⟨q,hsp,fun j u m=>?_⟩⟩
  ·obtain⟨y,l,p⟩:=hv i row j t hi m;refine⟨y,?_,p⟩;have A:i<rows.length:=by
    rcases Wl i rows.length with g|g
    ·exact g
    ·rw[Wh g]at hi;cases hi
   have B:j<z:=by
    have:=hz i row hi;rcases Wl j row.length with g|g
    ·omega
    ·rw[Wh g]at m;cases m
   have:=pA A B;rw[Wr,Xu this,Wc, ←Xz,l];rfl
  ·simp only[Wx,W0]at C;obtain⟨n,a,rfl⟩:=C;obtain⟨t,y,l,p⟩:=at_ n a;rw[l];exact p.one
  ·rw[Wr,We]at m;obtain⟨n,a,rfl⟩:=m;have v:j<rows.length*z:=by
    rcases Wl j (rows.length*z)with g|g
    ·exact g
    ·rw[Wh (by simpa using g)]at a;cases a
   rw[Xu v]at a;cases a;obtain⟨t,y,l,p⟩:=at_ j v;rw[uc hb,l];rfl
theorem RowsAre.append {z:Nat}{rows a:List (List DT)}{cs b:List Value}(h:RowsAre z rows cs)(g:RowsAre z a b):RowsAre z (rows++a) (cs++b):=by
 refine⟨by simp[h.len,g.len,XA],fun i row hi=>?_,fun i row j t hi e=>?_⟩
 ·rcases Wl i rows.length with q|q
  ·rw[W1 q]at hi;exact h.row i row hi
  ·rw[WZ q]at hi;exact g.row _ row hi
 ·rcases Wl i rows.length with q|q
  ·rw[W1 q]at hi;obtain⟨y,c,d⟩:=h.val i row j t hi e;refine⟨y,?_,d⟩;rw[W1]
   ·exact c
   ·rcases Wl (i*z+j) cs.length with p|p
    ·exact p
    ·rw[Wh p]at c;cases c
  ·rw[WZ q]at hi;obtain⟨y,c,d⟩:=g.val _ row j t hi e;refine⟨y,?_,d⟩;have f:(i-rows.length)*z=i*z-rows.length*z:=Nat.sub_mul _ _ _;have k:rows.length*z≤i*z:=Xq _ q;rw[WZ (by rw[h.len];omega),h.len];rw[show i*z+j-rows.length*z=(i-rows.length)*z+j by omega];exact c
structure IN (B:Nat)(w w':World):Prop where
 os:w'.os=w.os
 tape:w'.tape=w.tape
 output:w'.output=w.output
 size:w.heap.size≤w'.heap.size
 same:∀b,b≠B→b<w.heap.size→w'.heap[b]?=w.heap[b]?
structure TN (B:Nat)(s:DSl):Prop where
 roots:∀v∈aj s,B∉bl v
 rootsO:∀v∈Am.rootsO s,B∉bl v
 head:match s with| .box b _=>b.1≠B| .im _ b _ _=>b.1≠B| .fni _ caps=>∀p∈caps,p.1.1≠B|_=>True
theorem Lies.grewX {B:Nat}{w w':World}(g:IN B w w'){b:Nat×Nat}(hb:b.1≠B){ts:List DT}(h:Lies w b ts):Lies w' b ts:=by obtain⟨c,e,f,a,hv⟩:=h;exact⟨c,e,f,by rw[g.same _ hb (dY a)];exact a,hv⟩
theorem MemS.grewX {B:Nat}{w w':World}(g:IN B w w'){s:DSl}(a:TN B s)(h:MemS w s):MemS w' s:=by
 obtain⟨m,n,d⟩:=h;refine⟨fun t i=>(m t i).frame fun b hb j=>g.same b (fun e=>a.roots t i (e ▸ hb)) j,fun t i o=>(n t i o).frame fun b hb j=>g.same b (fun e=>a.rootsO t i (e ▸ hb)) j,?_⟩;cases s with
 |box b ts =>refine⟨d.1.grewX g a.head,fun c e lo hi hb=>?_⟩;rw[g.same _ a.head d.1.lt]at hb;exact d.2 c e lo hi hb
 |im k b ts off=>exact Lies.grewX g a.head d
 |fni f caps=>exact fun p l=>(d p l).grewX g (a.head p l)
 |_=>trivial
theorem Inv.pend_out {cx:Cx}{D:DSt}{P:List (DT×Value)}{tm:Array Value}{w:World}(I:Inv cx D P tm w){B:Nat}(M:0<aV P B):cx.may B∧B<w.heap.size∧∀s∈D,TN B s:=by
 have a:=I.bnd B (by omega);refine⟨a.1,a.2,fun s hs=>?_⟩;have m:∀s'∈D,B∉ownBl s':=by intro s' q hb;have g:=cI q hb;have u:=I.once B;omega
 have C:∀v:DT,bK cx D v→(v.isOwn=true→B∉bl v)→B∉bl v:=by
  intro v l n hb;cases v with
  |v x=>simp[bl]at hb
  |any=>simp[bl]at hb
  |s k d z r =>
   cases k with
   |own=>exact n rfl hb
   |far=>exact Cx.far_not (l B hb) a.1
   |lent h c J =>obtain⟨t',g,u,G,K⟩:=l;obtain⟨s',g1,F,g3,H,g4⟩:=ce g;exact m s' F (g4 u B (G B hb))
 have l:=I.kind s hs;have y:=m s hs;cases s with
 |any=>exact⟨fun v hv=>by simp[aj]at hv,fun v hv=>by simp[Am.rootsO]at hv,trivial⟩
 |one t =>have g:B∉bl t:=C t (l t (by simp[aj])) (fun n hb=>y (by simp[ownBl,ownR,n,hb]));exact⟨fun v hv=>by simp[aj]at hv;subst hv;exact g,fun v hv=>by simp[Am.rootsO]at hv;subst hv;exact g,trivial⟩
 |agg ts =>
  have g:∀t∈ts,B∉bl t:=fun t j=>C t (l t j) (fun n hb=>y (by simp only[ownBl,Wq];exact⟨t,j,by simp[ownR,n,hb]⟩))
  exact⟨g,g,trivial⟩
 |box b ts =>
  have g:∀t∈ts,B∉bl t:=fun t j=>C t (l t j) (fun n hb=>y (by simp only[ownBl,WE,Wq];exact .inr ⟨t,j,by simp[ownR,n,hb]⟩))
  exact⟨g,g,fun e=>y (by simp[ownBl,e])⟩
 |tup rs =>
  have g:∀t∈rs.flatMap (·.2),B∉bl t:=fun t j=>C t (l t j) (fun n hb=>y (by simp only[Wq]at j;obtain⟨p,A,j⟩:=j;simp only[ownBl,Wq];exact⟨p,A,t,j,by simp[ownR,n,hb]⟩))
  exact⟨g,g,trivial⟩
 |al h c st lo len=>exact⟨fun v hv=>by simp[aj]at hv,fun v hv=>by simp[Am.rootsO]at hv,trivial⟩
 |pb h off=>exact⟨fun v hv=>by simp[aj]at hv,fun v hv=>by simp[Am.rootsO]at hv,trivial⟩
 |pe h c st i off=>exact⟨fun v hv=>by simp[aj]at hv,fun v hv=>by simp[Am.rootsO]at hv,trivial⟩
 |clo f q=>exact⟨fun v hv=>by simp[aj]at hv,fun v hv=>by simp[Am.rootsO]at hv,trivial⟩
 |im k b ts off =>
  have o:pD cx D k b.1 ts:=l;cases k with
  |own=>exact o.elim
  |far=>exact⟨fun v hv hb=>Cx.far_not (o.2 v hv B hb) a.1,fun v hv=>by simp[Am.rootsO]at hv,fun e=>Cx.far_not (e ▸ o.1) a.1⟩
  |lent h c J =>obtain⟨t',g,u,G,L⟩:=o;obtain⟨s',g1,F,g3,H,g4⟩:=ce g;exact⟨fun v hv hb=>m s' F (g4 u B (L v hv B hb)),fun v hv=>by simp[Am.rootsO]at hv,fun e=>m s' F (g4 u B (e ▸ G))⟩
 |fni f caps =>refine⟨fun v hv hb=>?_,fun v hv=>by simp[Am.rootsO]at hv,fun p A e=>Cx.far_not (e ▸ (l p A).1) a.1⟩;simp only[aj,Wq]at hv;obtain⟨p,A,hv⟩:=hv;exact Cx.far_not ((l p A).2 v hv B hb) a.1
theorem Inv.pendWrite {cx:Cx}{D:DSt}{P:List (DT×Value)}{tm:Array Value}{w w':World}(I:Inv cx D P tm w){B:Nat}(k:0<aV P B)(g:IN B w w'){t:DT}{y:Value}
  (hv:VT t y) (hh:Holds w' t) (l:OwnT w' t) (a:t.isOwn=true) (hc:∀b,(bl t).count b≤aV P b):Inv cx D [(t,y)] tm w':=by
 obtain⟨c,m,d⟩:=I.pend_out k;have i:∀b,aV [(t,y)] b≤aV P b:=fun b=>by simp only[aV,WA,X6,WG,ownR,a,WN];exact hc b
 refine⟨I.size,I.val,fun s hs=>(I.mem s hs).grewX g (d s hs),I.kind,fun p j=>?_,fun b=>?_,fun b hb=>?_,?_⟩
 ·rw[Wk]at j;subst j;exact⟨hv,hh,fun _=>l,fun h=>by rw[a]at h;cases h⟩
 ·have:=I.once b;have:=i b;omega
 ·have:=i b;have:=I.bnd b (by omega);exact⟨this.1,WQ this.2 g.size⟩
 ·have f:=I.frame;exact⟨g.os.trans f.os,g.tape.trans f.tape,g.output.trans f.output,W6 f.size g.size,fun b hb=>by rw[g.same b (fun e=>Cx.far_not (e ▸ hb) c) (WQ hb.1 f.size)];exact f.same b hb⟩
end Go.Proofs.YtjikhkndmohepaaGreatDoor.Am
