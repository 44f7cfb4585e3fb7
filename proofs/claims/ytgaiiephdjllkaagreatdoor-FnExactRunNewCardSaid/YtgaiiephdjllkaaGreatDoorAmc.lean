/- An abstract machine over trees: paths, loops, and what functions tell. Conditions: none. -/
import Derived.Test.YtgaiiephdjllkaaGreatDoorAmd
import Derived.Below
import Derived.Sort.Row
import Derived.KernelRfl
namespace Go.Proofs.YtgaiiephdjllkaaGreatDoor.Am
set_option linter.unusedVariables false
set_option linter.unusedSimpArgs false
open Go
inductive Dc where
 | b (x:Bool)
 | no
 | val (z:Value)
 | row (r:List (T Unit))
 | rows (r:List (List (T Unit)))
 | ret (rs:URes)
 | lp (e:Exit) (D:US)
abbrev PM (α:Type):=Option (α×List Dc×List Prop)
def cP:List Prop→Prop
 | []=>True
 | φ::φs=>φ∧cP φs
theorem iH:∀ {φ ψ:List Prop},cP (φ++ψ)→cP φ∧cP ψ
 | [],ψ,h=>⟨trivial,h⟩
 | a::φ,ψ,h=>by
  obtain ⟨h1,h2⟩:=h
  obtain ⟨h3,h4⟩:=iH h2
  exact ⟨⟨h1,h3⟩,h4⟩
def cq (p:List Dc) {α:Type} (x:Option α):PM α:=x.map fun s=>(s,p,[])
def vx:T Unit→List (Nat×Nat)→List Dc→PM (T Unit)
 | u,[],p=>some (u,p,[])
 | .s _ _ _ rows,(i,c)::st,.row row::r =>
  match row[c]? with
  | some v=>match vx v st r with | some (x,q,φ)=>some (x,q,(rows[i]?=some row)::φ) | none=>none
  | none=>none
 | _,_,_=>none
theorem uF:∀ (st:List (Nat×Nat)) {u x:T Unit} {p q:List Dc} {φ:List Prop},vx u st p=some (x,q,φ)→cP φ→getN u st=some x
 | [],u,x,p,q,φ,h,hφ=>by
  cases u<;>(cases h;rfl)
 | (i,c)::st,u,x,p,q,φ,h,hφ=>by
  unfold vx at h
  split at h
  ·rename_i heq;cases heq
  ·rename_i rows i' c' st' row r heq
   cases heq
   split at h
   ·rename_i v hv
    split at h
    ·rename_i x' q' φ' h1
     cases h
     have h2:=uF st h1 hφ.2
     show ((rows[i]?).bind (·[c]?)).bind (getN · st)=_
     rw [hφ.1,Option.bind_some,hv,Option.bind_some,h2]
    ·cases h
   ·cases h
  ·cases h
def Ad (tab:Tab) (D:US) (t:Nat) (x:Sl Unit Unit) (n:Int) (p:List Dc):PM (Sl Unit Unit) :=
 match x with
 | .one (.s k _ z rows) =>
  match p,tab.ti t with
  | .row row::r,some ⟨_,_,_,.slice e⟩=>if k = .own then none else if ((tab.ti e).map (·.size))=some z then some (.im k () row 0,r,[0≤n∧rows[n.toNat]?=some row]) else none
  | _,_=>none
 | .al h c st lo len =>
  match tab.ti t,am D h c with
  | some ⟨_,_,_,.slice e⟩,some u =>
   match vx u st p with
   | some (.s _ _ z _,r,φ)=>if ((tab.ti e).map (·.size))=some z then some (.pe h c st (lo+n.toNat) 0,r,(0≤n∧n<(len:Int))::φ) else none
   | _=>none
  | _,_=>none
 | _=>none
def Bg (tab:Tab) (D:US) (t:Nat) (x:Sl Unit Unit) (lo hi:Option Int) (p:List Dc):PM (Sl Unit Unit) :=
 match x with
 | .one (.v (.string s)) =>
  if ((tab.ti t).map (·.sh))=some .str then
   some (.one (.v (.string (s.extract (lo.getD 0).toNat (hi.getD s.size).toNat))),p,[0≤lo.getD 0∧lo.getD 0≤hi.getD s.size∧hi.getD s.size≤(s.size:Int)])
  else none
 | .one (.s k _ z rows) =>
  if k = .own then none else
  match p,tab.ti t with
  | .rows R::r,some ⟨_,_,_,.slice e⟩ =>
   if ((tab.ti e).map (·.size))=some z then
    some (.one (.s k.unr () z R),r,[0≤lo.getD 0∧lo.getD 0≤hi.getD rows.length∧hi.getD rows.length≤(rows.length:Int),(rows.drop (lo.getD 0).toNat).take ((hi.getD rows.length).toNat-(lo.getD 0).toNat)=R])
   else none
  | _,_=>none
 | .al h c st l len =>
  match tab.ti t with
  | some ⟨_,_,_,.slice e⟩ =>
   if ((tab.ti e).map (·.size))=lL D h c st then
    some (.al h c st (l+(lo.getD 0).toNat) ((hi.getD len).toNat-(lo.getD 0).toNat),p,[0≤lo.getD 0∧lo.getD 0≤hi.getD len∧hi.getD len≤(len:Int)])
   else none
  | _=>none
 | _=>none
def DY (D:US) (ti:TI) (s:Sl Unit Unit) (p:List Dc):PM (Sl Unit Unit) :=
 match s,p with
 | .pe h c st i o,.row row0::r0 =>
  match am D h c with
  | some u =>
   if u.isOwn then
    match vx u st (.row row0::r0) with
    | some (.s _ _ _ rows,.row row::r,φ) =>
     if o+ti.size≤row.length then
      if ti.sh.agg then some (.agg (((row.drop o).take ti.size).map (T.view (.lent h c false))),r,(rows[i]?=some row)::φ) else
      match (row.drop o).take ti.size with
      | [.s .own _ _ rows']=>some (.al h c (st++[(i,o)]) 0 rows'.length,r,(rows[i]?=some row)::φ)
      | [u]=>some (.one (u.view (.lent h c false)),r,(rows[i]?=some row)::φ)
      | _=>none
     else none
    | _=>none
   else none
  | none=>none
 | _,_=>cq p (gp D ti s)
theorem bv {α:Type} {p r:List Dc} {x:Option α} {s:α} {φ:List Prop} (h:cq p x=some (s,r,φ)):x=some s:=by
 unfold cq at h
 rw [Option.map_eq_some_iff] at h
 obtain ⟨a,h1,h2⟩:=h
 cases h2;exact h1
theorem E7 {tab:Tab} {D:US} {t:Nat} {x s:Sl Unit Unit} {n:Int} {p r:List Dc} {φ:List Prop} (h:Ad tab D t x n p=some (s,r,φ)) (hφ:cP φ):fv mkU D tab t x n=some s:=by
 unfold Ad at h
 unfold fv
 split at h
 ·split at h
  ·rename_i htab
   split at h
   ·cases h
   ·rename_i hk
    split at h
    ·rename_i hz
     cases h
     rw [htab]
     simp only
     rw [if_neg hk,if_pos hz,if_pos hφ.1.1,hφ.1.2];rfl
    ·cases h
  ·cases h
 ·split at h
  ·rename_i htab hcell
   split at h
   ·rename_i hgp
    split at h
    ·rename_i hz
     cases h
     have hg:=uF _ hgp hφ.2
     rw [htab]
     simp only [lL,cf,hcell,Option.bind_some,hg]
     rw [if_pos hz,if_pos hφ.1]
    ·cases h
   ·cases h
  ·cases h
 ·cases h
theorem FH {tab:Tab} {D:US} {t:Nat} {x s:Sl Unit Unit} {lo hi:Option Int} {p r:List Dc} {φ:List Prop} (h:Bg tab D t x lo hi p=some (s,r,φ)) (hφ:cP φ):iQ mkU D tab t x lo hi=some s:=by
 unfold Bg at h
 unfold iQ
 split at h
 ·split at h
  ·rename_i hs
   cases h
   simp only
   rw [if_pos hs,if_pos hφ.1]
  ·cases h
 ·split at h
  ·cases h
  ·rename_i hk
   split at h
   ·rename_i htab
    split at h
    ·rename_i hz
     cases h
     rw [htab]
     simp only
     rw [if_neg hk,if_pos hz,if_pos hφ.1,hφ.2.1]
    ·cases h
   ·cases h
 ·split at h
  ·rename_i htab
   split at h
   ·rename_i hz
    cases h
    rw [htab]
    simp only
    rw [if_pos hz,if_pos hφ.1]
   ·cases h
  ·cases h
 ·cases h
theorem Gs {D:US} {ti:TI} {x s:Sl Unit Unit} {p r:List Dc} {φ:List Prop} (h:DY D ti x p=some (s,r,φ)) (hφ:cP φ):gp D ti x=some s:=by
 unfold DY at h
 split at h
 ·rename_i h' c st i o row0 r0
  split at h
  case h_2=>cases h
  rename_i u hu
  split at h
  case isFalse=>cases h
  rename_i ho
  split at h
  case h_2=>cases h
  rename_i rows row r' φ' hgp
  split at h
  case isFalse=>cases h
  rename_i hl
  have hr:rows[i]?=some row→cP φ'→rowRange D h' c st i o ti.size=some ((row.drop o).take ti.size):=by
   intro hr hp
   have hg:=uF st hgp hp
   simp only [rowRange,hu,ho,if_true,hg,hr,Option.bind_some,if_pos hl]
  split at h
  ·rename_i ha
   cases h
   simp only [gp,hr hφ.1 hφ.2,Option.bind_some,if_pos ha]
  ·rename_i ha
   split at h
   ·rename_i rows' he
    cases h
    simp only [gp,hr hφ.1 hφ.2,Option.bind_some,if_neg ha,he]
   ·rename_i u' hne he
    cases h
    simp only [gp,hr hφ.1 hφ.2,Option.bind_some,if_neg ha,he]
   ·cases h
 ·exact bv h
end Go.Proofs.YtgaiiephdjllkaaGreatDoor.Am
namespace Go.Proofs.YtgaiiephdjllkaaGreatDoor.Am
set_option linter.unusedVariables false
set_option linter.unusedSimpArgs false
open Go
def qq (D:US) (x:Operand):Option Value :=
 match opd () D x with
 | some (.one (.v z))=>some z
 | _=>none
theorem o7 {D:US} {x:Operand} {z:Value} (h:qq D x=some z):opd mkU.nil D x=some (.one (.v z)):=by
 unfold qq at h
 split at h
 ·rename_i z' h1;cases h;exact h1
 ·cases h
def sP (D:US) (x:Operand):Option (IntKind×Int) :=
 match opd () D x with
 | some (.one (.v (.int k n)))=>some (k,n)
 | _=>none
theorem sQ {D:US} {x:Operand} {k:IntKind} {n:Int} (h:sP D x=some (k,n)):opd mkU.nil D x=some (.one (.v (.int k n))):=by
 unfold sP at h
 split at h
 ·rename_i k' n' h1;cases h;exact h1
 ·cases h
def Bn (D:US) (x:Operand):Option ByteArray :=
 match opd () D x with
 | some (.one (.v (.string s)))=>some s
 | _=>none
theorem FL {D:US} {x:Operand} {s:ByteArray} (h:Bn D x=some s):opd mkU.nil D x=some (.one (.v (.string s))):=by
 unfold Bn at h
 split at h
 ·rename_i s' h1;cases h;exact h1
 ·cases h
def mN (tab:Tab) (D:US) (op:Op) (p:List Dc):PM (Sl Unit Unit) :=
 match op with
 | .binOp o t x y ty =>
  match p with
  | .val z::r=>(qq D x).bind fun a=>(qq D y).map fun b=>(.one (.v z),r,[r8 tab o t a b=some z])
  | .b d::r =>
   match (qq D x).bind fun a=>(qq D y).bind fun b=>r8 tab o t a b with
   | some (.bool c)=>some (.one (.v (.bool d)),r,[c=d])
   | _=>match bA mkU tab D (.binOp o t x y ty) with
    | some (.one (.v (.bool c)))=>some (.one (.v (.bool d)),r,[c=d])
    | s=>cq p s
  | .no::r=>cq r (bA mkU tab D (.binOp o t x y ty))
  | _=>cq p (bA mkU tab D (.binOp o t x y ty))
 | .call c =>
  match p with
  | .val (.int k m)::r =>
   match bA mkU tab D (.call c) with
   | some (.one (.v (.int k' n)))=>if k=k' then some (.one (.v (.int k m)),r,[n=m]) else none
   | _=>none
  | _=>cq p (bA mkU tab D (.call c))
 | .indexAddr t x i=>(opd () D x).bind fun s=>(sP D i).bind fun n=>Ad tab D t s n.2 p
 | .index t x i =>
  match opd () D x,p with
  | some (.clo (.arr offs) hs),.val (.int .i64 m)::r=>(sP D i).bind fun n =>
   if 0≤m∧tab.ars.lookup t=some hs.length∧offs.length=hs.length then
    match hs[m.toNat]?,offs[m.toNat]? with
    | some h,some o=>some (.pb h o,r,[n.2=m])
    | _,_=>none
   else none
  | _,_ =>
  (Bn D x).bind fun s=>(sP D i).bind fun n =>
   if ((tab.ti t).map (·.sh))=some .str then some (.one (.v (.int .u8 (fk s n.2))),p,[0≤n.2∧n.2<(s.size:Int)]) else none
 | .slice t x lo hi none=>(opd () D x).bind fun s=>(fR () D lo).bind fun l=>(fR () D hi).bind fun h=>Bg tab D t s l h p
 | .load t x=>(opd () D x).bind fun s=>(tab.ti t).bind fun ti=>if ti.sh = .other then none else DY D ti s p
 | op=>cq p (bA mkU tab D op)
theorem lc {tab:Tab} {D:US} {op:Op} {p r:List Dc} {s:Sl Unit Unit} {φ:List Prop} (h:mN tab D op p=some (s,r,φ)) (hφ:cP φ):bA mkU tab D op=some s:=by
 unfold mN at h
 split at h
 ·rename_i o t x y ty
  split at h
  ·rename_i z r'
   simp only [Option.bind_eq_some_iff,Option.map_eq_some_iff] at h
   obtain ⟨a,ha,b,hb,h⟩:=h
   cases h
   simp only [bA,o7 ha,o7 hb,hφ.1];rfl
  ·rename_i d r'
   split at h
   ·rename_i c hc
    simp only [Option.bind_eq_some_iff] at hc
    obtain ⟨a,ha,b,hb,hc⟩:=hc
    cases h
    cases hφ.1
    simp only [bA,o7 ha,o7 hb,hc];rfl
   ·split at h
    ·rename_i c hc
     cases h
     cases hφ.1
     exact hc
    ·exact bv h
  ·exact bv h
  ·exact bv h
 ·rename_i c
  split at h
  ·rename_i k m r'
   split at h
   ·rename_i k' n he
    split at h
    ·rename_i hk
     cases h
     cases hk
     cases hφ.1
     exact he
    ·cases h
   ·cases h
  ·exact bv h
 ·rename_i t x i
  simp only [Option.bind_eq_some_iff] at h
  obtain ⟨s',h1,⟨k,n⟩,h2,h3⟩:=h
  have h1':opd mkU.nil D x=some s':=h1
  simp only [bA,h1',sQ h2]
  exact E7 h3 hφ
 ·rename_i t x i
  split at h
  ·rename_i offs hs m r' hx
   rw [Option.bind_eq_some_iff] at h
   obtain ⟨⟨k,n⟩,h2,h3⟩:=h
   split at h3
   case isFalse=>cases h3
   rename_i hc
   split at h3
   case h_2=>cases h3
   rename_i h0 o hh ho
   cases h3
   have e1:n=m:=hφ.1
   subst e1
   have hx':opd mkU.nil D x=some (.clo (.arr offs) hs):=hx
   simp only [bA,hx',sQ h2]
   rw [if_pos hc]
   simp only [hh,ho]
  simp only [Option.bind_eq_some_iff] at h
  obtain ⟨s',h1,⟨k,n⟩,h2,h3⟩:=h
  split at h3
  ·rename_i hs
   cases h3
   simp only [bA,FL h1,sQ h2]
   rw [if_pos hs,if_pos hφ.1]
  ·cases h3
 ·rename_i t x lo hi
  simp only [Option.bind_eq_some_iff] at h
  obtain ⟨s',h1,l,h2,hh,h3,h4⟩:=h
  have h1':opd mkU.nil D x=some s':=h1
  have h2':fR mkU.nil D lo=some l:=h2
  have h3':fR mkU.nil D hi=some hh:=h3
  simp only [bA,h1',h2',h3']
  exact FH h4 hφ
 ·rename_i t x
  simp only [Option.bind_eq_some_iff] at h
  obtain ⟨s',h1,ti,h2,h3⟩:=h
  have h1':opd mkU.nil D x=some s':=h1
  split at h3
  ·cases h3
  ·rename_i hno
   simp only [bA,h1',h2]
   rw [if_neg hno]
   exact Gs h3 hφ
 ·exact bv h
def rh (D:US) (q:Sl Unit Unit) (us:List (T Unit)) (p:List Dc):PM US :=
 match q,p with
 | .pe h c [] i off,.row row :: .rows R::r =>
  if us.all T.fine then
   match am D h c with
   | some t =>
    if t.isOwn then
     match t with
     | .s _ _ _ rows =>
      if off+us.length≤row.length then
       (cE (fun n=>match n with | .s k d z _=>some (.s k d z R) | _=>none)
        (St.dead (co h c) (qSt (((row.drop off).take us.length).all T.flat) h c) D) h c []).map fun D'=>(D',r,[rows[i]?=some row,rows.set i (ao row off us)=R])
      else none
     | _=>none
    else none
   | none=>none
  else none
 | .pe h c [(i0,o0)] i off,.row row0 :: .row row :: .rows R' :: .rows R::r =>
  if us.all T.fine then
   match am D h c with
   | some t =>
    if t.isOwn then
     match t with
     | .s _ _ _ rows0 =>
      match row0[o0]? with
      | some (.s k' d' z' rows) =>
       if off+us.length≤row.length then
        (cE (fun n=>match n with | .s k d z _=>some (.s k d z R) | _=>none)
         (St.dead (co h c) (qSt (((row.drop off).take us.length).all T.flat) h c) D) h c []).map fun D' =>
          (D',r,[rows0[i0]?=some row0,rows[i]?=some row,rows.set i (ao row off us)=R',rows0.set i0 (row0.set o0 (.s k' d' z' R'))=R])
       else none
      | _=>none
     | _=>none
    else none
   | none=>none
  else none
 | .pe h c st i off,.row row::r =>
  if us.all T.fine then
   match am D h c with
   | some t =>
    if t.isOwn then
     match getN t st with
     | some (.s _ _ _ rows) =>
      if off+us.length≤row.length then
       (cE (fun n=>match n with | .s k d z rows=>if off+us.length≤row.length then some (.s k d z (rows.set i (ao row off us))) else none | _=>none)
        (St.dead (co h c) (qSt (((row.drop off).take us.length).all T.flat) h c) D) h c st).map fun D'=>(D',r,[rows[i]?=some row])
      else none
     | _=>none
    else none
   | none=>none
  else none
 | _,_=>cq p (fK D q us)
end Go.Proofs.YtgaiiephdjllkaaGreatDoor.Am
namespace Go.Proofs.YtgaiiephdjllkaaGreatDoor.Am
set_option linter.unusedVariables false
set_option linter.unusedSimpArgs false
open Go
section
variable {δ β : Type}
theorem la {p:Nat→Nat→Bool} {t:T δ} (h:t.isOwn=true):t.dead p=t:=by
 cases t with
 | v x=>rfl
 | any=>rfl
 | s k d z r=>cases k<;>simp_all [T.isOwn,T.dead]
theorem vA (p:Nat→Nat→Bool) (q:Nat→Nat→Bool→Bool) (s:Sl δ β):aI (s.dead p q)=(aI s).map (List.map (T.dead p)):=by
 cases s with
 | al h c st lo len=>simp only [Sl.dead];split<;>rfl
 | pe h c st i off=>simp only [Sl.dead];split<;>rfl
 | im k b ts off =>
  simp only [Sl.dead]
  split
  ·split<;>rfl
  ·rfl
 | _=>rfl
theorem gI (p:Nat→Nat→Bool) (q:Nat→Nat→Bool→Bool) (D:St δ β) (h c:Nat):am (St.dead p q D) h c=(am D h c).map (T.dead p):=by
 unfold am St.dead
 rw [List.getElem?_map]
 cases D[h]? with
 | none=>rfl
 | some s =>
  simp only [Option.map_some,Option.bind_some,vA]
  cases aI s with
  | none=>rfl
  | some cs=>simp [List.getElem?_map]
theorem wu {f g:T δ→Option (T δ)} {n:T δ} (e:f n=g n):∀ (st:List (Nat×Nat)) {t:T δ},getN t st=some n→eg f t st=eg g t st
 | [],t,h=>by cases h;simp only [eg];exact e
 | (i,c)::st,t,h=>by
  cases t with
  | v x=>simp [getN] at h
  | any=>simp [getN] at h
  | s k d z rows =>
   simp only [getN,Option.bind_eq_some_iff] at h
   obtain ⟨u,⟨row,hi,hj⟩,hg⟩:=h
   simp only [eg,hi,hj,Option.bind_some]
   rw [wu e st hg]
end
theorem uu {D D':US} {q:Sl Unit Unit} {us:List (T Unit)} {p r:List Dc} {φ:List Prop} (h:rh D q us p=some (D',r,φ)) (hφ:cP φ):fK D q us=some D':=by
 unfold rh at h
 split at h
 ·rename_i h' c i off row R r'
  split at h
  case isFalse=>cases h
  rename_i hfine
  split at h
  case h_2=>cases h
  rename_i t ht
  split at h
  case isFalse=>cases h
  rename_i ho
  split at h
  case h_2=>cases h
  rename_i k d z rows
  split at h
  case isFalse=>cases h
  rename_i hl
  rw [Option.map_eq_some_iff] at h
  obtain ⟨D1,h1,h2⟩:=h
  cases h2
  simp only [fK,hfine,if_true,ht,ho,getN,hφ.1,if_pos hl]
  rw [← h1]
  unfold cE
  rw [gI,ht]
  simp only [Option.map_some,Option.bind_some,la ho,eg,setRow,hφ.1]
  rw [if_pos hl,Option.bind_some, ← hφ.2.1]
 ·rename_i h' c i0 o0 i off row0 row R' R r'
  split at h
  case isFalse=>cases h
  rename_i hfine
  split at h
  case h_2=>cases h
  rename_i t ht
  split at h
  case isFalse=>cases h
  rename_i ho
  split at h
  case h_2=>cases h
  rename_i k d z rows0
  split at h
  case h_2=>cases h
  rename_i k' d' z' rows hrow
  split at h
  case isFalse=>cases h
  rename_i hl
  rw [Option.map_eq_some_iff] at h
  obtain ⟨D1,h1,h2⟩:=h
  cases h2
  obtain ⟨q1,q2,q3,q4,_⟩:=hφ
  have hg:getN (.s k d z rows0) [(i0,o0)]=some (.s k' d' z' rows):=by
   show ((rows0[i0]?).bind (·[o0]?)).bind (getN · [])=_
   rw [q1,Option.bind_some,hrow,Option.bind_some]
   rfl
  simp only [fK,hfine,if_true,ht,ho,hg,q2,if_pos hl]
  rw [← h1]
  unfold cE
  rw [gI,ht]
  simp only [Option.map_some,Option.bind_some,la ho,eg,setRow,q1,hrow,q2]
  rw [if_pos hl]
  simp only [Option.map_some,Option.bind_some,q3,q4]
 ·rename_i h' c st i off row r' hne hne2
  split at h
  case isFalse=>cases h
  rename_i hfine
  split at h
  case h_2=>cases h
  rename_i t ht
  split at h
  case isFalse=>cases h
  rename_i ho
  split at h
  case h_2=>cases h
  rename_i k d z rows hg
  split at h
  case isFalse=>cases h
  rename_i hl
  rw [Option.map_eq_some_iff] at h
  obtain ⟨D1,h1,h2⟩:=h
  cases h2
  simp only [fK,hfine,if_true,ht,ho,hg,hφ.1,if_pos hl]
  rw [← h1]
  unfold cE
  rw [gI,ht]
  simp only [Option.map_some,Option.bind_some,la ho]
  rw [wu (f:=setRow i off us) ?_ st hg]
  simp only [setRow,hφ.1,Option.bind_some]
  rw [if_pos hl]
 ·exact bv h
def y4 (tab:Tab) (D:US) (dst:Option Nat) (t:Nat) (l c:Operand) (p:List Dc):PM US :=
 match p with
 | .rows R::r =>
  match tab.ti t,dst,(opd mkU.nil D l).bind intOfSl,(opd mkU.nil D c).bind intOfSl with
  | some ⟨_,_,_,.slice e⟩,some d,some n,some k =>
   match tab.ti e with
   | some te =>
    if d<D.length∧te.size≠0∧te.zero.length=te.size then
     some (aL D (some d) (.one (.s .own () te.size R)),r,[0≤n∧n≤k∧(te.bytes:Int)*k≤281474976710656∧k≤4611686018427387904,List.replicate n.toNat (te.zero.map (T.inj ()))=R])
    else none
   | none=>none
  | _,_,_,_=>none
 | _=>none
theorem Ar {tab:Tab} {D D':US} {dst:Option Nat} {t:Nat} {l c:Operand} {p r:List Dc} {φ:List Prop} (h:y4 tab D dst t l c p=some (D',r,φ)) (hφ:cP φ):dy mkU frU tab D dst t l c=some D':=by
 unfold y4 at h
 split at h
 case h_2=>cases h
 split at h
 case h_2=>cases h
 rename_i hti hl hc
 split at h
 case h_2=>cases h
 rename_i te hte
 split at h
 case isFalse=>cases h
 rename_i hcond
 cases h
 obtain ⟨h1,h2,_⟩:=hφ
 unfold dy
 try rw [hti]
 try rw [hl]
 try rw [hc]
 try simp only
 try rw [hte]
 try simp only
 rw [if_pos hcond,if_pos h1, ← h2]
def wB (tab:Tab) (D:US) (dst:Option Nat) (t t2:Nat) (s x:Operand) (p:List Dc):PM US :=
 match p with
 | .rows R::r =>
  match tab.ti t,tab.ti t2,dst,cellsTake mkU D s with
  | some ⟨_,_,_,.slice e⟩,some ⟨_,_,_,.slice _⟩,some d',some (false,[.s .own _ z rows],D1) =>
   match tab.ti e with
   | some te =>
    match te.zero.all T.flat with
    | true =>
     match cellsCopy mkU D1 x with
     | some (false,[.s _ _ z2 rows2]) =>
      if d'<D1.length∧te.size=z∧te.size≠0∧te.zero.length=te.size∧z2=z then
       some (aL D1 (some d') (.one (.s .own () z R)),r,
        [rows2.all (fun r=>r.all T.flat)=true∧(rows.length+rows2.length)*te.bytes≤140737488355328∧rows.length+rows2.length≤4611686018427387904,rows++rows2=R])
      else none
     | _=>none
    | false =>
     match cellsTake mkU D1 x with
     | some (false,[.s .own _ z2 rows2],D2) =>
      if d'<D2.length∧te.size=z∧te.size≠0∧te.zero.length=te.size∧z2=z then
       some (aL D2 (some d') (.one (.s .own () z R)),r,
        [(rows.length+rows2.length)*te.bytes≤140737488355328∧rows.length+rows2.length≤4611686018427387904,rows++rows2=R])
      else none
     | _=>none
   | none=>none
  | _,_,_,_=>none
 | _=>none
theorem C9 {tab:Tab} {D D':US} {dst:Option Nat} {t t2:Nat} {s x:Operand} {p r:List Dc} {φ:List Prop} (h:wB tab D dst t t2 s x p=some (D',r,φ)) (hφ:cP φ):jd mkU frU tab D dst t t2 s x=some D':=by
 unfold wB at h
 split at h
 case h_2=>cases h
 split at h
 case h_2=>cases h
 rename_i hti hti2 hs
 split at h
 case h_2=>cases h
 rename_i te hte
 unfold jd
 try rw [hti]
 try rw [hti2]
 try rw [hs]
 try simp only
 try rw [hte]
 try simp only
 split at h
 ·rename_i hfl
  split at h
  case h_2=>cases h
  rename_i hx
  split at h
  case isFalse=>cases h
  rename_i hc
  cases h
  obtain ⟨h1,h2,_⟩:=hφ
  rw [hfl]
  simp only [qy,hx]
  rw [if_pos h1.1]
  simp only
  rw [if_pos hc,if_pos h1.2, ← h2]
  try rfl
 ·rename_i hfl
  split at h
  case h_2=>cases h
  rename_i hx
  split at h
  case isFalse=>cases h
  rename_i hc
  cases h
  obtain ⟨h1,h2,_⟩:=hφ
  rw [hfl]
  simp only [qy,hx]
  rw [if_pos hc,if_pos h1, ← h2]
  try rfl
def GB (D:US) (dst:Option Nat) (rows:List (List (T Unit))) (p:List Dc):PM US :=
 match p with
 | .val (.string st)::r=>(dj D dst (.one (.v (.string st)))).map fun D'=>(D',r,[(cU rows).map strOfNums=some st])
 | _=>none
theorem Hn {D D':US} {dst:Option Nat} {rows:List (List (T Unit))} {p r:List Dc} {φ:List Prop} (h:GB D dst rows p=some (D',r,φ)) (hφ:cP φ) :
  ((cU rows).bind fun xs=>dj D dst (.one (.v (.string (strOfNums xs)))))=some D':=by
 unfold GB at h
 split at h
 ·rename_i st r'
  rw [Option.map_eq_some_iff] at h
  obtain ⟨D1,h1,h2⟩:=h
  cases h2
  have:=hφ.1
  rw [Option.map_eq_some_iff] at this
  obtain ⟨xs,k1,rfl⟩:=this
  rw [k1,Option.bind_some,h1]
 ·cases h
def tv (tab:Tab) (D:US) (dst:Option Nat) (src t:Nat) (x:Operand) (p:List Dc):PM US :=
 match p with
 | .rows R::r =>
  match tab.ti src,tab.ti t,dst,opd mkU.nil D x with
  | some ⟨_,_,_,.str⟩,some ⟨_,_,_,.slice e⟩,some d,some (.one (.v (.string s))) =>
   match tab.ti e with
   | some ⟨1,_,_,.int .u8⟩=>if d<D.length then some (aL D (some d) (.one (.s .own () 1 R)),r,[gf s=R]) else none
   | _=>none
  | _,_,_,_=>none
 | _=>none
theorem Bl {tab:Tab} {D D':US} {dst:Option Nat} {src t:Nat} {x:Operand} {p r:List Dc} {φ:List Prop} (h:tv tab D dst src t x p=some (D',r,φ)) (hφ:cP φ):eE mkU frU tab D dst src t x=some D':=by
 unfold tv at h
 split at h
 case h_2=>cases h
 split at h
 case h_2=>cases h
 rename_i hs ht hx
 split at h
 case h_2=>cases h
 rename_i he
 split at h
 case isFalse=>cases h
 rename_i hd
 cases h
 have h1:=hφ.1
 unfold eE
 try rw [hs]
 try rw [ht]
 try rw [hx]
 try simp only
 try rw [he]
 try simp only
 rw [if_pos hd, ← h1]
 try rfl
def sG (D:US) (x:Operand) (p:List Dc):PM (Sl Unit Unit×US) :=
 match x with
 | .tmp t =>
  match D[t]? with
  | some (.al h c [] lo len) =>
   match am D h c with
   | some (.s .own d z rows)=>if lo=0 then (cE (fun _=>some .any) (St.dead (co h c) (qHC h c) D) h c []).map fun D'=>((.one (.s .own d z rows),D'),p,[len=rows.length]) else none
   | _=>none
  | some (.al h c [(i,j)] lo len) =>
   match am D h c,p with
   | some (.s .own d z rows),.row row::r =>
    match row[j]? with
    | some (.s .own d' z' rows') =>
     if lo=0 then (et (St.dead (co h c) (qHC h c) D) h c (.s .own d z (rows.set i (row.set j .any)))).map fun D'=>((.one (.s .own d' z' rows'),D'),r,[rows[i]?=some row,len=rows'.length]) else none
    | _=>none
   | _,_=>none
  | _=>cq p (homeTake D x)
 | _=>none
theorem zV {D:US} {x:Operand} {p r:List Dc} {s:Sl Unit Unit×US} {φ:List Prop} (h:sG D x p=some (s,r,φ)) (hφ:cP φ):homeTake D x=some s:=by
 unfold sG at h
 split at h
 ·rename_i t
  split at h
  ·rename_i h' c lo len hD
   split at h
   ·rename_i d z rows hc
    split at h
    ·rename_i hlo
     rw [Option.map_eq_some_iff] at h
     obtain ⟨D',h1,h2⟩:=h
     cases h2
     have hn:cf D h' c []=some (.s .own d z rows):=by simp only [cf,hc,Option.bind_some,getN]
     simp only [homeTake,hD,hn]
     rw [if_pos ⟨hlo,hφ.1⟩,h1];rfl
    ·cases h
   ·cases h
  ·rename_i h' c i j lo len hD
   split at h
   ·rename_i d z rows row r' hc
    split at h
    ·rename_i d' z' rows' hj
     split at h
     ·rename_i hlo
      rw [Option.map_eq_some_iff] at h
      obtain ⟨D',h1,h2⟩:=h
      cases h2
      obtain ⟨q1,q2,_⟩:=hφ
      have hn:cf D h' c [(i,j)]=some (.s .own d' z' rows'):=by simp only [cf,hc,Option.bind_some,getN,q1,hj]
      simp only [homeTake,hD,hn]
      rw [if_pos ⟨hlo,q2⟩]
      unfold cE
      rw [gI,hc]
      simp only [Option.map_some,Option.bind_some,la (t:=T.s .own d z rows) rfl,eg,q1,hj,h1]
     ·cases h
    ·cases h
   ·cases h
  ·exact bv h
 ·cases h
def sE (D D1:US) (x:Operand) (o:Bool×List (T Unit)) (p:List Dc):PM US :=
 match x with
 | .tmp t =>
  match D[t]? with
  | some (.al h c [] _ _) =>
   match am D h c,o.2 with
   | some (.s .own d z _),[.s .own _ z' rows']=>if z'=z then cq p (et (St.dead (co h c) (jL h c) D) h c (.s .own d z rows')) else none
   | _,_=>none
  | some (.al h c [(i,j)] _ _) =>
   match am D h c,p,o.2 with
   | some (.s .own d z rows),.row row :: .rows R::r,[.s .own _ z' rows'] =>
    match row[j]? with
    | some (.s .own d' z2 _)=>if z'=z2 then (et (St.dead (co h c) (jL h c) D) h c (.s .own d z R)).map fun D'=>(D',r,[rows[i]?=some row,rows.set i (row.set j (.s .own d' z2 rows'))=R]) else none
    | _=>none
   | _,_,_=>none
  | _=>cq p (homePut0 D D1 x o)
 | _=>none
theorem zU {D D1 D':US} {x:Operand} {o:Bool×List (T Unit)} {p r:List Dc} {φ:List Prop} (h:sE D D1 x o p=some (D',r,φ)) (hφ:cP φ):homePut0 D D1 x o=some D':=by
 unfold sE at h
 split at h
 ·rename_i t
  split at h
  ·rename_i h' c lo len hD
   split at h
   ·rename_i d z rows d1 z' rows' hc ho
    split at h
    ·rename_i hz
     have h:=bv h
     have hn:cf D h' c []=some (.s .own d z rows):=by simp only [cf,hc,Option.bind_some,getN]
     simp only [homePut0,hD,hn,ho]
     rw [if_pos hz]
     unfold cE
     rw [gI,hc]
     simp only [Option.map_some,Option.bind_some,la (t:=T.s .own d z rows) rfl,eg,iP,h]
    ·cases h
   ·cases h
  ·rename_i h' c i j lo len hD
   split at h
   ·rename_i d z rows row R r' d1 z' rows' hc ho
    split at h
    ·rename_i d' z2 rows2 hj
     split at h
     ·rename_i hz
      rw [Option.map_eq_some_iff] at h
      obtain ⟨D2,h1,h2⟩:=h
      cases h2
      obtain ⟨q1,q2,_⟩:=hφ
      have hn:cf D h' c [(i,j)]=some (.s .own d' z2 rows2):=by simp only [cf,hc,Option.bind_some,getN,q1,hj]
      simp only [homePut0,hD,hn,ho]
      rw [if_pos hz]
      unfold cE
      rw [gI,hc]
      simp only [Option.map_some,Option.bind_some,la (t:=T.s .own d z rows) rfl,eg,q1,hj,iP,q2,h1]
     ·cases h
    ·cases h
   ·cases h
  ·exact bv h
 ·cases h
def uH (D D1:US) (x:Operand) (o:Bool×List (T Unit)) (p:List Dc):PM US:=if vy o=true then some (D1,p,[]) else sE D D1 x o p
theorem BT {D D1 D':US} {x:Operand} {o:Bool×List (T Unit)} {p r:List Dc} {φ:List Prop} (h:uH D D1 x o p=some (D',r,φ)) (hφ:cP φ):homePut D D1 x o=some D':=by
 unfold uH at h
 unfold homePut
 split at h
 ·rename_i hg
  cases h
  rw [if_pos hg]
 ·rename_i hg
  rw [if_neg hg]
  exact zU h hφ
def y8 (tab:Tab) (fns:FuncId→Option Func) (C:Sem1) (D:US) (o:Oper) (tk:Bool) (p:List Dc):PM US :=
 match callTo D o with
 | some (f,xs,caps) =>
  if (fns f).isSome then
   match tab.addr.lookup f with
   | some offs=>cq p (addrSl D o.dst offs xs caps)
   | none =>
   match tab.io.lookup f with
   | none=>(argsW mkU tab f D xs).bind fun as =>
    match p with
    | .ret rs::r=>(putRet mkU D o.dst rs).map fun D'=>(D',r,[C f (as++ims caps)=some rs])
    | _=>none
   | some i =>
    match caps,xs[i]? with
    | [],some x =>
     match sG D x p with
     | some (t,p1,φ1)=>(argsIo mkU t.2 t.1 i xs).bind fun as =>
      match p1 with
      | .ret (q::rs)::p2 =>
       match uH D t.2 x q p2 with
       | some (D2,p3,φ2)=>(putRet mkU D2 o.dst rs).map fun D'=>(D',p3,φ1++([C f as=some (q::rs)]++φ2))
       | none=>none
      | _=>none
     | none=>none
    | _,_=>none
  else none
 | none =>
  match o.op with
  | .store t pt x =>
   match oj tab t x with
   | some z =>
    match o.dst,tab.ti t with
    | none,some ti=>if ti.size=1 then (opd () D pt).bind fun q=>rh D q [.s .own () z []] p else none
    | _,_=>none
   | none =>
    match o.dst,tab.ti t,cellsOf mkU D x tk with
    | none,some ti,some (_,us,D1)=>if us.length=ti.size∧0<us.length then (opd () D1 pt).bind fun q=>rh D1 q us p else none
    | _,_,_=>none
  | .alloc _=>cq p (cv mkU frU tab D o tk)
  | .box _ _=>cq p (cv mkU frU tab D o tk)
  | .move _=>cq p (cv mkU frU tab D o tk)
  | .assign _=>cq p (cv mkU frU tab D o tk)
  | .extract _ _=>cq p (cv mkU frU tab D o tk)
  | .makeFunc _ _ _=>cq p (cv mkU frU tab D o tk)
  | .buildSlice _ _ _=>cq p (cv mkU frU tab D o tk)
  | .makeSlice t l c=>y4 tab D o.dst t l c p
  | .call c =>
   match pH c with
   | some (t,t2,s,x)=>wB tab D o.dst t t2 s x p
   | none=>(mN tab D (.call c) p).bind fun s=>(dj D o.dst s.1).map fun D'=>(D',s.2.1,s.2.2)
  | .convert src dst x =>
   match je mkU tab D src dst x with
   | some rows=>GB D o.dst rows p
   | none =>
    match eE mkU frU tab D o.dst src dst x with
    | some _=>tv tab D o.dst src dst x p
    | none=>(mN tab D (.convert src dst x) p).bind fun s=>(dj D o.dst s.1).map fun D'=>(D',s.2.1,s.2.2)
  | .load t x=>if tk then cq p (cv mkU frU tab D o tk) else (mN tab D (.load t x) p).bind fun s=>(dj D o.dst s.1).map fun D'=>(D',s.2.1,s.2.2)
  | .build _ _=>cq p (cv mkU frU tab D o tk)
  | op=>(mN tab D op p).bind fun s=>(dj D o.dst s.1).map fun D'=>(D',s.2.1,s.2.2)
theorem Du {tab:Tab} {D D':US} {o:Oper} {tk:Bool} {op:Op} (hop:o.op=op) (h1:∀ t p x,op ≠ .store t p x) (h2:∀ t,op ≠ .alloc t) (h3:∀ t x,op ≠ .box t x) (h4:∀ x,op ≠ .move x) (h5:∀ x,op ≠ .assign x) (h6:∀ t x,op ≠ .build t x) (h7:∀ x i,op ≠ .extract x i) (h8:∀ t l x,op ≠ .buildSlice t l x) (h9:∀ t l x,op ≠ .makeSlice t l x) (h10:∀ t x,op ≠ .load t x) (h11:∀ f x y,op ≠ .makeFunc f x y) (h12:∀ c,op ≠ .call c) (h13:∀ a b x,op ≠ .convert a b x)
  (h:((bA mkU tab D op).bind fun s=>dj D o.dst s)=some D'):cv mkU frU tab D o tk=some D':=by
 unfold cv
 split
 ·rename_i hh;rw [hop] at hh;exact absurd hh (h1 _ _ _)
 ·rename_i hh;rw [hop] at hh;exact absurd hh (h2 _)
 ·rename_i hh;rw [hop] at hh;exact absurd hh (h3 _ _)
 ·rename_i hh;rw [hop] at hh;exact absurd hh (h4 _)
 ·rename_i hh;rw [hop] at hh;exact absurd hh (h5 _)
 ·rename_i hh;rw [hop] at hh;exact absurd hh (h10 _ _)
 ·rename_i hh;rw [hop] at hh;exact absurd hh (h7 _ _)
 ·rename_i hh;rw [hop] at hh;exact absurd hh (h11 _ _ _)
 ·rename_i hh;rw [hop] at hh;exact absurd hh (h8 _ _ _)
 ·rename_i hh;rw [hop] at hh;exact absurd hh (h9 _ _ _)
 ·rename_i hh;rw [hop] at hh;exact absurd hh (h12 _)
 ·rename_i hh;rw [hop] at hh;exact absurd hh (h13 _ _ _)
 ·rename_i hh;rw [hop] at hh;exact absurd hh (h6 _ _)
 ·rw [hop];exact h
theorem Bk {tab:Tab} {fns:FuncId→Option Func} {C:Sem1} {D D':US} {o:Oper} {tk:Bool} {p r:List Dc} {φ:List Prop} (h:y8 tab fns C D o tk p=some (D',r,φ)) (hφ:cP φ):stepU tab fns C D o tk=some D':=by
 unfold y8 at h
 unfold stepU
 split at h
 ·rename_i f xs caps hc
  split at h
  ·rename_i hfs
   split at h
   ·rename_i offs hao
    try rw [hc]
    try simp only
    rw [if_pos hfs,hao]
    exact bv h
   rename_i hao
   split at h
   ·rename_i hio
    rw [Option.bind_eq_some_iff] at h
    obtain ⟨as,h1,h⟩:=h
    split at h
    ·rename_i rs r'
     rw [Option.map_eq_some_iff] at h
     obtain ⟨D1,h2,h3⟩:=h
     cases h3
     try rw [hc]
     try simp only
     rw [if_pos hfs,hao]
     simp only
     rw [hio]
     simp only
     rw [h1,Option.bind_some,hφ.1,Option.bind_some,h2]
    ·cases h
   ·rename_i i hio
    split at h
    case h_2=>cases h
    rename_i x0 hx0
    split at h
    case h_2=>cases h
    rename_i t p1 φ1 ht
    rw [Option.bind_eq_some_iff] at h
    obtain ⟨as,h1,h⟩:=h
    split at h
    case h_2=>cases h
    rename_i q rs p2
    split at h
    case h_2=>cases h
    rename_i D2 p3 φ2 hp
    rw [Option.map_eq_some_iff] at h
    obtain ⟨D3,h2,h3⟩:=h
    cases h3
    obtain ⟨a1,a2⟩:=iH hφ
    obtain ⟨a3,a4⟩:=iH a2
    try rw [hc]
    try simp only
    rw [if_pos hfs,hao]
    simp only
    rw [hio]
    simp only
    rw [hx0]
    simp only
    rw [zV ht a1,Option.bind_some,h1,Option.bind_some,a3.1,Option.bind_some]
    simp only
    rw [BT hp a4,Option.bind_some,h2]
  ·cases h
 ·rename_i hc
  try rw [hc]
  try simp only
  split at h
  ·rename_i t pt x hop
   unfold cv
   rw [hop]
   simp only
   split at h
   ·rename_i z hz
    split at h
    case h_2=>cases h
    rename_i ti hd hti
    split at h
    case isFalse=>cases h
    rename_i hsz
    rw [Option.bind_eq_some_iff] at h
    obtain ⟨q,h1,h2⟩:=h
    have:=uu h2 hφ
    rw [hd]
    simp only [hz,k6,hti]
    rw [if_pos hsz]
    have h1':opd mkU.nil D pt=some q:=h1
    rw [h1',Option.bind_some]
    exact this
   ·rename_i hz
    split at h
    case h_2=>cases h
    rename_i ti g us D1 hd hti hcs
    split at h
    case isFalse=>cases h
    rename_i hsz
    rw [Option.bind_eq_some_iff] at h
    obtain ⟨q,h1,h2⟩:=h
    have:=uu h2 hφ
    rw [hd]
    simp only [hz,ms,hti,hcs]
    rw [if_pos hsz]
    have h1':opd mkU.nil D1 pt=some q:=h1
    rw [h1',Option.bind_some,this]
  ·exact bv h
  ·exact bv h
  ·exact bv h
  ·exact bv h
  ·exact bv h
  ·exact bv h
  ·exact bv h
  ·rename_i t l c hop
   have:=Ar h hφ
   unfold cv
   rw [hop]
   exact this
  ·rename_i c hop
   unfold cv
   rw [hop]
   simp only
   split at h
   ·rename_i t t2 s x hap
    try rw [hap]
    try simp only
    exact C9 h hφ
   ·rename_i hap
    simp only [Option.bind_eq_some_iff,Option.map_eq_some_iff] at h
    obtain ⟨⟨s,r',φ'⟩,h1,D1,h2,h3⟩:=h
    cases h3
    have:=lc h1 hφ
    try rw [hap]
    try simp only
    rw [this,Option.bind_some,h2]
  ·rename_i src dst x hop
   unfold cv
   rw [hop]
   simp only
   split at h
   ·rename_i rows hap
    try rw [hap]
    try simp only
    exact Hn h hφ
   ·rename_i hap
    try rw [hap]
    try simp only
    split at h
    ·rename_i D2 hs2
     have h9:=Bl h hφ
     try rw [hs2] at h9
     try rw [hs2]
     try simp only
     exact h9
    ·rename_i hs2
     simp only [Option.bind_eq_some_iff,Option.map_eq_some_iff] at h
     obtain ⟨⟨s,r',φ'⟩,h1,D1,h2,h3⟩:=h
     cases h3
     have:=lc h1 hφ
     try rw [hs2]
     try simp only
     rw [this,Option.bind_some,h2]
  ·rename_i t x hop
   split at h
   ·exact bv h
   ·rename_i htk
    simp only [Option.bind_eq_some_iff,Option.map_eq_some_iff] at h
    obtain ⟨⟨s,r',φ'⟩,h1,D1,h2,h3⟩:=h
    cases h3
    have:=lc h1 hφ
    unfold cv
    rw [hop]
    simp only
    rw [if_neg htk,this,Option.bind_some,h2]
  ·exact bv h
  ·rename_i n1 n2 n3 n4 n5 n7 n11 n8 n9 n12 n13 n10 n6
   simp only [Option.bind_eq_some_iff,Option.map_eq_some_iff] at h
   obtain ⟨⟨s,r',φ'⟩,h1,D1,h2,h3⟩:=h
   cases h3
   have:=lc h1 hφ
   refine Du rfl n1 n2 n3 n4 n5 n6 n7 n8 n9 n10 n11 n12 n13 ?_
   rw [this,Option.bind_some,h2]
end Go.Proofs.YtgaiiephdjllkaaGreatDoor.Am
namespace Go.Proofs.YtgaiiephdjllkaaGreatDoor.Am
set_option linter.unusedVariables false
set_option linter.unusedSimpArgs false
open Go
def iT {α β:Type} (x:PM α) (f:α→List Dc→PM β):PM β :=
 match x with
 | some (a,p,φ)=>match f a p with | some (b,r,ψ)=>some (b,r,φ++ψ) | none=>none
 | none=>none
theorem eh {α β:Type} {x:PM α} {f:α→List Dc→PM β} {b:β} {r:List Dc} {χ:List Prop} (h:iT x f=some (b,r,χ)) (hχ:cP χ) :
  ∃ a p φ ψ,x=some (a,p,φ)∧cP φ∧f a p=some (b,r,ψ)∧cP ψ:=by
 unfold iT at h
 split at h
 ·rename_i a p φ
  split at h
  ·rename_i b' r' ψ hf
   cases h
   exact ⟨a,p,φ,ψ,rfl,(iH hχ).1,hf,(iH hχ).2⟩
  ·cases h
 ·cases h
def iO (tab:Tab) (fns:FuncId→Option Func) (C:Sem1) (tk:Nat→Bool) (ops:Array Oper):List Oper→Nat→US→List Dc→PM US
 | [],_,D,p=>some (D,p,[])
 | o::l,i,D,p =>
  match o.guard with
  | none=>iT (y8 tab fns C D o (tk i) p) (iO tab fns C tk ops l (i+1))
  | some (j,want) =>
   match ((ops[j]?).bind (·.dst)).bind (yieldAt D) with
   | some b =>
    if b=some want then iT (y8 tab fns C D o (tk i) p) (iO tab fns C tk ops l (i+1))
    else match o.dst with
     | none=>iO tab fns C tk ops l (i+1) D p
     | some t=>if t<D.length then iO tab fns C tk ops l (i+1) (putA D t (.tup [])) p else none
   | none=>none
theorem ed {tab:Tab} {fns:FuncId→Option Func} {C:Sem1} {tk:Nat→Bool} {ops:Array Oper}:∀ (l:List Oper) (i:Nat) {D D':US} {p r:List Dc} {φ:List Prop},
  iO tab fns C tk ops l i D p=some (D',r,φ)→cP φ→runOps tab fns C tk ops l i D=some D'
 | [],i,D,D',p,r,φ,h,hφ=>by cases h;rfl
 | o::l,i,D,D',p,r,φ,h,hφ=>by
  unfold iO at h
  unfold runOps
  split at h
  ·rename_i hg
   obtain ⟨D1,p1,φ1,ψ1,h1,hφ1,h2,hψ1⟩:=eh h hφ
   try rw [hg]
   try simp only
   rw [Bk h1 hφ1,Option.bind_some]
   exact ed l (i+1) h2 hψ1
  ·rename_i j want hg
   try rw [hg]
   try simp only
   split at h
   ·rename_i b hb
    try rw [hb]
    try simp only
    split at h
    ·rename_i hdw
     obtain ⟨D1,p1,φ1,ψ1,h1,hφ1,h2,hψ1⟩:=eh h hφ
     rw [if_pos hdw,Bk h1 hφ1,Option.bind_some]
     exact ed l (i+1) h2 hψ1
    ·rename_i hdw
     split at h
     ·rename_i hd
      rw [if_neg hdw,hd]
      exact ed l (i+1) h hφ
     ·rename_i t hd
      split at h
      ·rename_i ht
       rw [if_neg hdw,hd]
       simp only
       rw [if_pos ht,Option.bind_some]
       exact ed l (i+1) h hφ
      ·cases h
   ·cases h
def wn (tab:Tab) (fns:FuncId→Option Func) (C:Sem1) (M:US) (o:Oper) (p:List Dc):PM (Sl Unit Unit) :=
 match callTo M o with
 | some (f,xs,caps) =>
  if (fns f).isSome∧tab.io.lookup f=none then (argsW mkU tab f M xs).bind fun as =>
   match p with
   | .ret rs::r=>(mC mkU rs).map fun s=>(s,r,[C f (as++ims caps)=some rs])
   | _=>none
  else none
 | none =>
  match o.op with
  | .buildSlice t len parts =>
   match o.dst with
   | some d=>cq p ((dw mkU frU tab M (some d) t len parts.toList).bind fun U=>match U[d]? with | some (.one u)=>if u.isOwn then some (.one u) else none | _=>none)
   | none=>none
  | .makeSlice t l c =>
   match o.dst with
   | some d=>iT (y4 tab M (some d) t l c p) fun U r=>match U[d]? with | some (.one u)=>if u.isOwn then some (.one u,r,[]) else none | _=>none
   | none=>none
  | .alloc bt=>cq p ((tab.ti bt).map fun ti => .box () (ti.zero.map (T.inj ())))
  | .extract x i=>cq p (nU M x i)
  | .move x=>match gi M x with | some rs=>some (.tup rs,p,[]) | none=>mN tab M (.move x) p
  | op=>mN tab M op p
theorem xY {tab:Tab} {fns:FuncId→Option Func} {C:Sem1} {M:US} {o:Oper} {p r:List Dc} {s:Sl Unit Unit} {φ:List Prop} (h:wn tab fns C M o p=some (s,r,φ)) (hφ:cP φ):stepV tab fns C M o=some s:=by
 unfold wn at h
 unfold stepV
 split at h
 ·rename_i f xs caps hc
  split at h
  ·rename_i hfs
   rw [Option.bind_eq_some_iff] at h
   obtain ⟨as,h1,h⟩:=h
   split at h
   ·rename_i rs r'
    rw [Option.map_eq_some_iff] at h
    obtain ⟨s',h2,h3⟩:=h
    cases h3
    try rw [hc]
    try simp only
    rw [if_pos hfs,h1,Option.bind_some,hφ.1,Option.bind_some,h2]
   ·cases h
  ·cases h
 ·rename_i hc
  try rw [hc]
  try simp only
  split at h
  ·rename_i bt len parts hop
   try rw [hop]
   try simp only
   split at h
   ·rename_i d hd
    try rw [hd]
    try simp only
    exact bv h
   ·cases h
  ·rename_i lt lo hi hop
   try rw [hop]
   try simp only
   split at h
   ·rename_i d hd
    try rw [hd]
    try simp only
    obtain ⟨U1,p1,φ1,ψ1,h1,hφ1,h2,hψ1⟩:=eh h hφ
    rw [Ar h1 hφ1,Option.bind_some]
    split at h2
    ·rename_i u hu
     split at h2
     ·rename_i ho
      cases h2
      rw [hu]
      simp only
      rw [if_pos ho]
     ·cases h2
    ·cases h2
   ·cases h
  ·rename_i bt hop
   try rw [hop]
   try simp only
   exact bv h
  ·rename_i x i hop
   try rw [hop]
   try simp only
   exact bv h
  ·rename_i x hop
   try rw [hop]
   try simp only
   split at h
   ·rename_i rs hT
    rw [hT]
    cases h
    rfl
   ·rename_i hT
    rw [hT]
    exact lc h hφ
  ·rename_i hne hne2 hne3 hne4 hne5
   split
   ·rename_i hop
    exact absurd hop (hne _ _ _)
   ·rename_i hop
    exact absurd hop (hne2 _ _ _)
   ·rename_i hop
    exact absurd hop (hne3 _)
   ·rename_i hop
    exact absurd hop (hne4 _ _)
   ·rename_i hop
    exact absurd hop (hne5 _)
   ·exact lc h hφ
def Gh (tab:Tab) (fns:FuncId→Option Func) (C:Sem1) (tk:Nat→Bool) (ops:Array Oper) (m:Nat) (anc:List (List Nat)) (U:US) (j:Nat) (p:List Dc):PM (Sl Unit Unit) :=
 match ops[j]? with
 | some o =>
  match o.dst with
  | some t =>
   iT (match tko tk ops j with
    | none =>
     match o.guard with
     | none=>wn tab fns C (killAll (gm tk ops m anc j) U) o p
     | some (g,want) =>
      match ((ops[g]?).bind (·.dst)).bind (yieldAt (killAll (gm tk ops m anc j) U)) with
      | some b=>if b=some want then wn tab fns C (killAll (gm tk ops m anc j) U) o p else some (.tup [],p,[])
      | none=>none
    | some _=>cq p (nk mkU frU tab (fun q=>(killAll (gm tk ops m anc j) U)[q]?) o)) fun s r=>if (t::fi tk ops m).all (fun v => !c9 v s)=true then some (s,r,[]) else none
  | none=>none
 | none=>none
theorem G8 {tab:Tab} {fns:FuncId→Option Func} {C:Sem1} {tk:Nat→Bool} {ops:Array Oper} {m:Nat} {anc:List (List Nat)} {U:US} {s:Sl Unit Unit} {j:Nat} {p r:List Dc} {φ:List Prop} (h:Gh tab fns C tk ops m anc U j p=some (s,r,φ)) (hφ:cP φ) :
  evM tab fns C tk ops m anc j U=some s:=by
 unfold Gh at h
 unfold evM
 split at h
 case h_2=>cases h
 rename_i o ho
 rw [ho]
 simp only
 split at h
 case h_2=>cases h
 rename_i t hd
 rw [hd]
 simp only
 obtain ⟨s1,p1,φ1,ψ1,h1,hφ1,h2,hψ1⟩:=eh h hφ
 split at h2
 case isFalse=>cases h2
 rename_i hc
 cases h2
 split at h1
 ·rename_i htko
  rw [htko]
  simp only
  unfold zS
  split at h1
  ·rename_i hg
   rw [hg]
   simp only
   rw [xY h1 hφ1,Option.bind_some,if_pos hc]
  ·rename_i g want hg
   rw [hg]
   simp only
   split at h1
   case h_2=>cases h1
   rename_i b hy
   rw [hy]
   simp only
   split at h1
   ·rename_i hb
    rw [if_pos hb,xY h1 hφ1,Option.bind_some,if_pos hc]
   ·rename_i hb
    cases h1
    rw [if_neg hb,Option.bind_some,if_pos hc]
 ·rename_i u htko
  rw [htko]
  simp only
  rw [bv h1,Option.bind_some,if_pos hc]
def Bi (tab:Tab) (fns:FuncId→Option Func) (C:Sem1) (tk:Nat→Bool) (ops:Array Oper) (m:Nat) (anc:List (List Nat)) (U:US) (j:Nat) (p:List Dc):PM US :=
 match (ops[j]?).bind (·.dst) with
 | some t =>
  match U[t]? with
  | some .any=>iT (Gh tab fns C tk ops m anc U j p) fun s r=>some ((kW tk ops j U).set t s,r,[])
  | _=>none
 | none=>none
theorem FK {tab:Tab} {fns:FuncId→Option Func} {C:Sem1} {tk:Nat→Bool} {ops:Array Oper} {m:Nat} {anc:List (List Nat)} {U V:US} {j:Nat} {p r:List Dc} {φ:List Prop} (h:Bi tab fns C tk ops m anc U j p=some (V,r,φ)) (hφ:cP φ) :
  stepM tab fns C tk ops m anc U j=some V:=by
 unfold Bi at h
 unfold stepM
 split at h
 case h_2=>cases h
 rename_i t hd
 rw [hd]
 simp only
 split at h
 case h_2=>cases h
 rename_i hu
 rw [hu]
 simp only
 obtain ⟨s1,p1,φ1,ψ1,h1,hφ1,h2,hψ1⟩:=eh h hφ
 cases h2
 rw [G8 h1 hφ1]
 rfl
def qj (tab:Tab) (fns:FuncId→Option Func) (C:Sem1) (tk:Nat→Bool) (ops:Array Oper) (m:Nat) (anc:List (List Nat)):Nat→Nat→US→List Dc→PM US
 | 0,_,U,p=>some (U,p,[])
 | n+1,j,U,p=>iT (Bi tab fns C tk ops m anc U j p) (qj tab fns C tk ops m anc n (j+1))
theorem nC {tab:Tab} {fns:FuncId→Option Func} {C:Sem1} {tk:Nat→Bool} {ops:Array Oper} {m:Nat} {anc:List (List Nat)}:∀ (n j:Nat) {U V:US} {p r:List Dc} {φ:List Prop},qj tab fns C tk ops m anc n j U p=some (V,r,φ)→cP φ →
  ks tab fns C tk ops m anc n j U=some V
 | 0,j,U,V,p,r,φ,h,hφ=>by cases h;rfl
 | n+1,j,U,V,p,r,φ,h,hφ=>by
  obtain ⟨U1,p1,φ1,ψ1,h1,hφ1,h2,hψ1⟩:=eh h hφ
  unfold ks
  rw [FK h1 hφ1,Option.bind_some]
  exact nC n (j+1) h2 hψ1
def Ea (tab:Tab) (fns:FuncId→Option Func) (C:Sem1) (tk:Nat→Bool) (ops:Array Oper) (m:Nat) (anc:List (List Nat)) (D:US) (p:List Dc):PM US :=
 if yX tk ops m anc&&(cp ops m).all (fun t=>decide (t<D.length))&&(killAll (cp ops m) D).all (fun s=>(fi tk ops m).all fun u => !c9 u s) then iT (qj tab fns C tk ops m anc m 0 (killAll (cp ops m) D) p) (iO tab fns C tk ops (ops.toList.drop m) m) else none
theorem Gx {tab:Tab} {fns:FuncId→Option Func} {C:Sem1} {tk:Nat→Bool} {ops:Array Oper} {m:Nat} {anc:List (List Nat)} {D V:US} {p r:List Dc} {φ:List Prop} (h:Ea tab fns C tk ops m anc D p=some (V,r,φ)) (hφ:cP φ) :
  runD tab fns C tk ops m anc D=some V:=by
 unfold Ea at h
 unfold runD
 split at h
 ·rename_i hB
  obtain ⟨U1,p1,φ1,ψ1,h1,hφ1,h2,hψ1⟩:=eh h hφ
  rw [if_pos hB,nC _ _ h1 hφ1,Option.bind_some]
  exact ed _ _ h2 hψ1
 ·cases h
def wc (tab:Tab) (fns:FuncId→Option Func) (C:Sem1) (tk:Nat→Bool) (late:Option (List Nat)) (ops:Array Oper) (m:Nat) (anc:List (List Nat)) (D:US) (p:List Dc):PM US :=
 match late with
 | none=>Ea tab fns C tk ops m anc D p
 | some σ =>
  if y6 σ ops.size&&(vl tk (cn σ ops) m anc&&(cp (cn σ ops) (m+1)).all (fun t=>decide (t<D.length))&&(killAll (cp (cn σ ops) (m+1)) D).all (fun s=>(fi tk (cn σ ops) (m+1)).all fun u => !c9 u s)) then
   iT (qj tab fns C tk (cn σ ops) (m+1) anc m 0 (killAll (cp (cn σ ops) (m+1)) D) p) fun Vx r =>
    iT (qj tab fns C tk (cn σ ops) (m+1) anc 1 m Vx r) fun Vm r2 =>
     match oo tab fns C tk (cn σ ops) (ops.size-(m+1)) ((List.range ops.size).drop (m+1)) Vm with
     | some U::l=>some (U,r2,[bN l U,bN (oo tab fns C tk (cn σ ops) (ops.size-m) ((List.range ops.size).drop m) Vx) U])
     | _=>none
  else none
theorem oY {tab:Tab} {fns:FuncId→Option Func} {C:Sem1} {tk:Nat→Bool} {late:Option (List Nat)} {ops:Array Oper} {m:Nat} {anc:List (List Nat)} {D V:US} {p r:List Dc} {φ:List Prop} (h:wc tab fns C tk late ops m anc D p=some (V,r,φ)) (hφ:cP φ) :
  runDL tab fns C tk late ops m anc D=some V:=by
 unfold wc at h
 unfold runDL
 split at h
 ·exact Gx h hφ
 ·rename_i σ
  simp only
  unfold runD2
  split at h
  case isFalse=>cases h
  rename_i hB
  rw [Bool.and_eq_true] at hB
  rw [if_pos hB]
  obtain ⟨U1,p1,φ1,ψ1,h1,hφ1,h2,hψ1⟩:=eh h hφ
  rw [nC _ _ h1 hφ1,Option.bind_some]
  obtain ⟨U2,p2,φ2,ψ2,h3,hφ2,h4,hψ2⟩:=eh h2 hψ1
  rw [nC _ _ h3 hφ2,Option.bind_some]
  split at h4
  case h_2=>cases h4
  rename_i U l hr
  cases h4
  rw [hr]
  simp only
  rw [if_pos ⟨hψ2.1,hψ2.2.1⟩]
def kG (tab:Tab) (fns:FuncId→Option Func) (C:Sem1) (h:gz) (n:Nat):Code→US→List Dc→PM (Exit×US)
 | .skip,D,p=>some ((.normal,D),p,[])
 | .region id ops draw,D,p =>
  match draw with
  | true =>
   match h.draw id with
   | some (m,anc)=>iT (wc tab fns C (h.take id) (h.late id) ops m anc (match h.keep id with | some l=>forget l D | none=>D) p) fun D' r=>some ((.normal,D'),r,[])
   | none=>none
  | false=>if (qf ops.toList).isNone then iT (iO tab fns C (h.take id) ops ops.toList 0 (match h.keep id with | some l=>forget l D | none=>D) p) fun D' r=>some ((.normal,D'),r,[]) else none
 | .seq x y,D,p=>iT (kG tab fns C h n x D p) fun s r=>match s.1 with | .normal=>kG tab fns C h n y s.2 r | e=>some ((e,s.2),r,[])
 | .cond c x y,D,p =>
  match boolOf mkU D c with
  | some b=>if b then kG tab fns C h n x D p else kG tab fns C h n y D p
  | none=>none
 | .block id c,D,p=>iT (kG tab fns C h n c D p) fun s r=>match s.1 with | .exit id'=>some ((if id'=id then .normal else .exit id',s.2),r,[]) | e=>some ((e,s.2),r,[])
 | .exit id,D,p=>some ((.exit id,D),p,[])
 | .ret,D,p=>some ((.ret,D),p,[])
 | .loop c,D,p =>
  match p with
  | .lp e D'::r=>some ((e,D'),r,[∀ (R:Type) (K:Exit→US→Option R),nA (fun D K=>dU tab fns C h n c D fun e D'=>K e (canon h c e D')) n (atHead h c D) K=K e D'])
  | _=>none
 | _,_,_=>none
theorem mm {tab:Tab} {fns:FuncId→Option Func} {C:Sem1} {h:gz} {n:Nat}:∀ (c:Code) {D:US} {p:List Dc} {e:Exit} {D':US} {r:List Dc} {φ:List Prop},
  kG tab fns C h n c D p=some ((e,D'),r,φ)→cP φ→∀ {R:Type} (K:Exit→US→Option R),dU tab fns C h n c D K=K e D'
 | .skip,D,p,e,D',r,φ,hh,hφ,R,K=>by cases hh;rfl
 | .region id ops draw,D,p,e,D',r,φ,hh,hφ,R,K=>by
  simp only [kG] at hh
  simp only [dU]
  cases draw with
  | true =>
   simp only at hh ⊢
   cases hdr:h.draw id with
   | none=>rw [hdr] at hh;cases hh
   | some ma =>
    obtain ⟨m,anc⟩:=ma
    rw [hdr] at hh
    simp only at hh ⊢
    obtain ⟨D1,p1,φ1,ψ1,h1,hφ1,h2,hψ1⟩:=eh hh hφ
    cases h2
    cases hk:h.keep id with
    | none =>
     simp only [hk] at h1 ⊢
     rw [oY h1 hφ1,Option.bind_some]
    | some l =>
     simp only [hk] at h1 ⊢
     rw [oY h1 hφ1,Option.bind_some]
  | false =>
   simp only at hh ⊢
   split at hh
   case isFalse=>cases hh
   rename_i hnl
   rw [Option.isNone_iff_eq_none] at hnl
   rw [hnl]
   simp only
   obtain ⟨D1,p1,φ1,ψ1,h1,hφ1,h2,hψ1⟩:=eh hh hφ
   cases h2
   cases hk:h.keep id with
   | none =>
    simp only [hk] at h1 ⊢
    rw [ed _ _ h1 hφ1,Option.bind_some]
   | some l =>
    simp only [hk] at h1 ⊢
    rw [ed _ _ h1 hφ1,Option.bind_some]
 | .seq x y,D,p,e,D',r,φ,hh,hφ,R,K=>by
  simp only [kG] at hh
  simp only [dU]
  obtain ⟨⟨e1,D1⟩,p1,φ1,ψ1,h1,hφ1,h2,hψ1⟩:=eh hh hφ
  rw [mm x h1 hφ1]
  cases e1 with
  | normal=>exact mm y h2 hψ1 K
  | _=>cases h2;rfl
 | .cond c x y,D,p,e,D',r,φ,hh,hφ,R,K=>by
  simp only [kG] at hh
  simp only [dU]
  split at hh
  ·rename_i b hb
   try rw [hb]
   cases b
   ·exact mm y hh hφ K
   ·exact mm x hh hφ K
  ·cases hh
 | .block id c,D,p,e,D',r,φ,hh,hφ,R,K=>by
  simp only [kG] at hh
  simp only [dU]
  obtain ⟨⟨e1,D1⟩,p1,φ1,ψ1,h1,hφ1,h2,hψ1⟩:=eh hh hφ
  rw [mm c h1 hφ1]
  cases e1 with
  | exit id' =>
   cases h2
   simp only
   split<;>rfl
  | _=>cases h2;rfl
 | .exit id,D,p,e,D',r,φ,hh,hφ,R,K=>by cases hh;rfl
 | .ret,D,p,e,D',r,φ,hh,hφ,R,K=>by cases hh;rfl
 | .loop c,D,p,e,D',r,φ,hh,hφ,R,K=>by
  simp only [kG] at hh
  simp only [dU]
  split at hh
  ·cases hh
   exact hφ.1 R K
  ·cases hh
 | .rangeFunc ..,D,p,e,D',r,φ,hh,hφ,R,K=>by cases hh
 | .scope _,D,p,e,D',r,φ,hh,hφ,R,K=>by cases hh
 | .label _,D,p,e,D',r,φ,hh,hφ,R,K=>by cases hh
 | .goto _,D,p,e,D',r,φ,hh,hφ,R,K=>by cases hh
 | .refuse _,D,p,e,D',r,φ,hh,hφ,R,K=>by cases hh
def uE {R:Type} (D:US) (d:Nat) (ng:Bool) (n:Nat) (p:List Dc) (K:US→List Dc→PM R):PM R :=
 match p with
 | .b true::r =>
  match K (putA D d (.one (.v (.bool (!ng))))) r with
  | some (a,q,φ) =>
   match K (putA D d (.one (.v (.bool ng)))) q with
   | some (b,q2,ψ)=>some (a,q2,(n=0)::(a=b)::(φ++ψ))
   | none=>none
  | none=>none
 | .b false::r =>
  match K (putA D d (.one (.v (.bool ng)))) r with
  | some (a,q,φ)=>some (a,q,(n≠0)::φ)
  | none=>none
 | _=>none
theorem BR {R:Type} {D:US} {d:Nat} {ng:Bool} {n:Nat} {p q:List Dc} {K:US→List Dc→PM R} {K':US→Option R} {a:R} {φ:List Prop} (h:uE D d ng n p K=some (a,q,φ)) (hφ:cP φ)
  (hK:∀ D p a q φ,K D p=some (a,q,φ)→cP φ→K' D=some a):pU D d ng n K'=some a:=by
 unfold uE at h
 unfold pU
 split at h
 ·split at h
  case h_2=>cases h
  rename_i a1 q1 φ1 h1
  split at h
  case h_2=>cases h
  rename_i b1 q2 ψ1 h2
  cases h
  obtain ⟨e1,e2,e3⟩:=hφ
  obtain ⟨e4,e5⟩:=iH e3
  subst e2
  rw [if_pos e1,hK _ _ _ _ _ h1 e4]
  simp only
  rw [if_pos (hK _ _ _ _ _ h2 e5)]
 ·split at h
  case h_2=>cases h
  rename_i a1 q1 φ1 h1
  cases h
  rw [if_neg hφ.1,hK _ _ _ _ _ h1 hφ.2]
 ·cases h
def kH (tab:Tab) (fns:FuncId→Option Func) (C:Sem1) (h:gz) (n:Nat) {R:Type}:Code→US→List Dc→(Exit→US→List Dc→PM R)→PM R
 | .skip,D,p,K=>K .normal D p
 | .region id ops draw,D,p,K =>
  match draw with
  | true =>
   match h.draw id with
   | some (m,anc)=>iT (wc tab fns C (h.take id) (h.late id) ops m anc (match h.keep id with | some l=>forget l D | none=>D) p) fun D' r=>K .normal D' r
   | none=>none
  | false =>
   match qf ops.toList with
   | some (init,t,x,d,ng)=>iT (iO tab fns C (h.take id) ops init 0 (match h.keep id with | some l=>forget l D | none=>D) p) fun D' r =>
    match oi mkU tab D' t x with
    | some n=>if d<D'.length then uE D' d ng n r (K .normal) else none
    | none=>none
   | none=>iT (iO tab fns C (h.take id) ops ops.toList 0 (match h.keep id with | some l=>forget l D | none=>D) p) fun D' r=>K .normal D' r
 | .seq x y,D,p,K=>kH tab fns C h n x D p fun e D' r=>match e with | .normal=>kH tab fns C h n y D' r K | e=>K e D' r
 | .cond c x y,D,p,K =>
  match boolOf mkU D c with
  | some b=>if b then kH tab fns C h n x D p K else kH tab fns C h n y D p K
  | none=>none
 | .block id c,D,p,K=>kH tab fns C h n c D p fun e D' r=>match e with | .exit id'=>if id'=id then K .normal D' r else K (.exit id') D' r | e=>K e D' r
 | .exit id,D,p,K=>K (.exit id) D p
 | .ret,D,p,K=>K .ret D p
 | .loop c,D,p,K =>
  match p with
  | .lp e D'::r =>
   match K e D' r with
   | some (a,q,φ)=>some (a,q,(∀ (R:Type) (K:Exit→US→Option R),nA (fun D K=>dU tab fns C h n c D fun e D'=>K e (canon h c e D')) n (atHead h c D) K=K e D')::φ)
   | none=>none
  | _=>none
 | _,_,_,_=>none
theorem mn {tab:Tab} {fns:FuncId→Option Func} {C:Sem1} {h:gz} {n:Nat} {R:Type}:∀ (c:Code) {K:Exit→US→List Dc→PM R} {K':Exit→US→Option R},(∀ e D p a q φ,K e D p=some (a,q,φ)→cP φ→K' e D=some a) →
  ∀ {D:US} {p q:List Dc} {a:R} {φ:List Prop},kH tab fns C h n c D p K=some (a,q,φ)→cP φ→dU tab fns C h n c D K'=some a
 | .skip,K,K',hK,D,p,q,a,φ,hh,hφ=>hK _ _ _ _ _ _ hh hφ
 | .region id ops draw,K,K',hK,D,p,q,a,φ,hh,hφ=>by
  simp only [kH] at hh
  simp only [dU]
  cases draw with
  | true =>
   simp only at hh ⊢
   cases hdr:h.draw id with
   | none=>rw [hdr] at hh;cases hh
   | some ma =>
    obtain ⟨m,anc⟩:=ma
    rw [hdr] at hh
    simp only at hh ⊢
    obtain ⟨D1,p1,φ1,ψ1,h1,hφ1,h2,hψ1⟩:=eh hh hφ
    cases hk:h.keep id with
    | none =>
     simp only [hk] at h1 ⊢
     rw [oY h1 hφ1,Option.bind_some]
     exact hK _ _ _ _ _ _ h2 hψ1
    | some l =>
     simp only [hk] at h1 ⊢
     rw [oY h1 hφ1,Option.bind_some]
     exact hK _ _ _ _ _ _ h2 hψ1
  | false =>
   simp only at hh ⊢
   split at hh
   ·rename_i init t x d ng hl
    rw [hl]
    simp only
    obtain ⟨D1,p1,φ1,ψ1,h1,hφ1,h2,hψ1⟩:=eh hh hφ
    split at h2
    case h_2=>cases h2
    rename_i n' hn
    split at h2
    case isFalse=>cases h2
    rename_i hd
    have h3:=BR (K':=K' .normal) h2 hψ1 fun D p a q φ=>hK _ _ _ _ _ _
    cases hk:h.keep id with
    | none =>
     simp only [hk] at h1 ⊢
     rw [ed _ _ h1 hφ1,Option.bind_some,hn]
     simp only
     rw [if_pos hd,h3]
    | some l =>
     simp only [hk] at h1 ⊢
     rw [ed _ _ h1 hφ1,Option.bind_some,hn]
     simp only
     rw [if_pos hd,h3]
   ·rename_i hl
    rw [hl]
    simp only
    obtain ⟨D1,p1,φ1,ψ1,h1,hφ1,h2,hψ1⟩:=eh hh hφ
    cases hk:h.keep id with
    | none =>
     simp only [hk] at h1 ⊢
     rw [ed _ _ h1 hφ1,Option.bind_some]
     exact hK _ _ _ _ _ _ h2 hψ1
    | some l =>
     simp only [hk] at h1 ⊢
     rw [ed _ _ h1 hφ1,Option.bind_some]
     exact hK _ _ _ _ _ _ h2 hψ1
 | .seq x y,K,K',hK,D,p,q,a,φ,hh,hφ=>by
  simp only [kH] at hh
  simp only [dU]
  refine mn x (fun e D p a q φ g hg => ?_) hh hφ
  cases e with
  | normal=>exact mn y hK g hg
  | _=>exact hK _ _ _ _ _ _ g hg
 | .cond c x y,K,K',hK,D,p,q,a,φ,hh,hφ=>by
  simp only [kH] at hh
  simp only [dU]
  split at hh
  ·rename_i b hb
   rw [hb]
   cases b
   ·exact mn y hK hh hφ
   ·exact mn x hK hh hφ
  ·cases hh
 | .block id c,K,K',hK,D,p,q,a,φ,hh,hφ=>by
  simp only [kH] at hh
  simp only [dU]
  refine mn c (fun e D p a q φ g hg => ?_) hh hφ
  cases e with
  | exit id' =>
   simp only at g ⊢
   split at g
   ·rename_i hid
    rw [if_pos hid]
    exact hK _ _ _ _ _ _ g hg
   ·rename_i hid
    rw [if_neg hid]
    exact hK _ _ _ _ _ _ g hg
  | _=>exact hK _ _ _ _ _ _ g hg
 | .exit id,K,K',hK,D,p,q,a,φ,hh,hφ=>hK _ _ _ _ _ _ hh hφ
 | .ret,K,K',hK,D,p,q,a,φ,hh,hφ=>hK _ _ _ _ _ _ hh hφ
 | .loop c,K,K',hK,D,p,q,a,φ,hh,hφ=>by
  simp only [kH] at hh
  simp only [dU]
  split at hh
  case h_2=>cases hh
  split at hh
  case h_2=>cases hh
  rename_i e D' r a1 q1 φ1 h1
  cases hh
  rw [hφ.1]
  exact hK _ _ _ _ _ _ h1 hφ.2
 | .rangeFunc ..,K,K',hK,D,p,q,a,φ,hh,hφ=>by cases hh
 | .scope _,K,K',hK,D,p,q,a,φ,hh,hφ=>by cases hh
 | .label _,K,K',hK,D,p,q,a,φ,hh,hφ=>by cases hh
 | .goto _,K,K',hK,D,p,q,a,φ,hh,hφ=>by cases hh
 | .refuse _,K,K',hK,D,p,q,a,φ,hh,hφ=>by cases hh
end Go.Proofs.YtgaiiephdjllkaaGreatDoor.Am
namespace Go.Proofs.YtgaiiephdjllkaaGreatDoor.Am
set_option linter.unusedVariables false
set_option linter.unusedSimpArgs false
open Go
def y5 (tab:Tab) (fns:FuncId→Option Func) (C:Sem1) (h:gz) (k:Nat) (f:FuncId) (fn:Func) (as:List (Sl Unit Unit)) (p:List Dc):Option (URes×List Prop) :=
 match fn.body with
 | some c =>
  if (tab.gv.contains f || Gk ((bw 0 as).map (·.1)) c)=true then
   match kH tab fns C h k c (as++List.replicate (fn.ntmps-as.length) .any) p fun e D q=>(GI tab (tab.gv.contains f) fn (bw 0 as) e D).map fun rs=>(rs,q,[]) with
   | some (rs,_,φ)=>some (rs,φ)
   | none=>none
  else none
 | none=>none
theorem FA {tab:Tab} {fns:FuncId→Option Func} {hints:FuncId→gz} {orc:Sem1→Sem1} {k:Nat} {f:FuncId} {fn:Func} {as:List (Sl Unit Unit)} (p:List Dc) {rs:URes} {φ:List Prop}
  (hf:fns f=some fn) (ho:orc (om tab fns hints orc k) f as=none) (h:y5 tab fns (om tab fns hints orc k) (hints f) k f fn as p=some (rs,φ)) (hφ:cP φ):om tab fns hints orc (k+1) f as=some rs:=by
 unfold y5 at h
 simp only [om,ho,hf]
 split at h
 ·rename_i c hc
  try rw [hc]
  try simp only
  split at h
  ·rename_i hfix
   rw [if_pos hfix]
   split at h
   ·rename_i rs' r φ' hr
    cases h
    exact mn c (fun e D p a q φ g hg=>by
     rw [Option.map_eq_some_iff] at g
     obtain ⟨a',h1,h2⟩:=g
     cases h2
     exact h1) hr hφ
   ·cases h
  ·cases h
 ·cases h
end Go.Proofs.YtgaiiephdjllkaaGreatDoor.Am
namespace Go.Proofs.YtgaiiephdjllkaaGreatDoor.Am
set_option linter.unusedVariables false
set_option linter.unusedSimpArgs false
open Go
mutual
theorem Shape.noLent {δ:Type}:∀ (ty:Ty) (ts:List (T δ)),Shape ty ts→∀ u∈ts,u.noLent=true
 | .bool,ts,h,u,hu=>by obtain ⟨b,rfl⟩:=h;simp at hu;subst hu;rfl
 | .int k,ts,h,u,hu=>by obtain ⟨b,rfl,_⟩:=h;simp at hu;subst hu;rfl
 | .str,ts,h,u,hu=>by obtain ⟨b,rfl,_⟩:=h;simp at hu;subst hu;rfl
 | .slice e,ts,h,u,hu=>by obtain ⟨d,rows,rfl,_⟩:=h;simp at hu;subst hu;rfl
 | .struct fs,ts,h,u,hu=>ShapeF.noLent fs ts h u hu
theorem ShapeF.noLent {δ:Type}:∀ (fs:Fs) (ts:List (T δ)),ShapeF fs ts→∀ u∈ts,u.noLent=true
 | .nil,ts,h,u,hu=>by simp only [ShapeF] at h;subst h;simp at hu
 | .cons t r,ts,h,u,hu=>by
  obtain ⟨xs,ys,rfl,h1,h2⟩:=h
  rcases List.mem_append.1 hu with q | q
  ·exact Shape.noLent t xs h1 u q
  ·exact ShapeF.noLent r ys h2 u q
end
theorem zb {w:World} {D:DSt} {u:DT} (h1:u.isOwn=false∧∀ b∈bl u,b<w.heap.size) (h2:u.noLent=true):bg ⟨w,[]⟩ D u:=by
 cases u with
 | v x=>trivial
 | any=>trivial
 | s k d z r=>cases k<;>first | (cases h1.1;done) | (cases h2;done) | exact fun x hx=>H5 (h1.2 x hx)
theorem AOk.agg {w:World} {ts:List DT} {cs:Array Value} (R:Reads w ts cs.toList) (hn:∀ u∈ts,u.noLent=true):AOk w [] (.agg ts) (.agg cs)∧(Sl.agg ts:DSl).isHome=false :=
 have h:(Sl.agg ts:DSl).isHome=false:=by
  show ts.any T.isOwn=false
  rw [List.any_eq_false]
  exact fun u hu=>by rw [(R.far u hu).1];exact Bool.false_ne_true
 ⟨⟨fun _=>⟨cs,rfl,R.cells⟩,⟨R.holds,fun u hu ho=>absurd ho (by rw [(R.far u hu).1];exact Bool.false_ne_true),trivial⟩,fun _ u hu=>zb (R.far u hu) (hn u hu),gD (iD h)⟩,h⟩
theorem AOk.one {w:World} {t:DT} {y:Value} (R:Reads w [t] [y]) (hn:t.noLent=true):AOk w [] (.one t) y∧(Sl.one t:DSl).isHome=false :=
 have h:(Sl.one t:DSl).isHome=false:=(R.far t (by simp)).1
 ⟨⟨fun _=>R.cells.2 0 t y rfl rfl,⟨fun u hu=>R.holds u (by simpa [ai] using hu),fun u hu ho=>absurd ho (by rw [(R.far u (by simpa [rootsO] using hu)).1];exact Bool.false_ne_true),trivial⟩,
  fun _ u hu=>by
   have:u=t:=by simpa [ai] using hu
   subst this
   exact zb (R.far u (by simp)) hn,gD (iD h)⟩,h⟩
def ArgsIn (w:World) (ad:List DSl) (vs:List Value):Prop:=ArgsOk w [] ad vs∧∀ a∈ad,a.isHome=false
theorem ArgsIn.nil (w:World):ArgsIn w [] []:=⟨ArgsOk.nil w [],fun a h=>by cases h⟩
theorem ArgsIn.cons {w:World} {a:DSl} {y:Value} {as:List DSl} {ys:List Value} (h:AOk w [] a y∧a.isHome=false) (g:ArgsIn w as ys):ArgsIn w (a::as) (y::ys) :=
 ⟨g.1.consN h.1 h.2,fun b hb=>by
  rcases List.mem_cons.1 hb with rfl | hb
  ·exact h.2
  ·exact g.2 b hb⟩
theorem Grew.below {w w':World} (g:Grew w w'):RowKit.Below w.heap.size w w':=⟨g.os,g.tape,g.output,g.size,g.same⟩
theorem CallsOk.plain {P:Program} {B:Base} {C:Sem1} (hC:CallsOk P B C) {f:FuncId} {as:List (Sl Unit Unit)} {x:Value} (h:C f as=some [(false,[.v x])]) {w:World} (hB:B.ok w []) {ad:List DSl} {vs:List Value} (he:ad.map Sl.er=as) (hA:ArgsIn w ad vs) :
  Calls P f vs.toArray w fun e w'=>e = .returned x∧RowKit.Below w.heap.size w w':=by
 refine (hC f as _ h w [] ad vs hB he hA.1).mono ?_
 rintro e w' ⟨v,od,rd,rfl,g,hr,hO,R⟩
 have:=OutsOk.none hA.2 hO
 subst this
 rw [wH] at hr
 refine ⟨?_,g.grew.below⟩
 match rd,hr,R with
 | [(gb,ts)],hr,R =>
  simp only [erR,List.map_cons,List.map_nil,List.cons.injEq,Prod.mk.injEq,and_true] at hr
  obtain ⟨rfl,hts⟩:=hr
  rcases R.val with ⟨r,h1,h2⟩ | ⟨h1,_⟩ | ⟨d,z,row,h1,_⟩
  ·cases h1
   simp only [VPart,Bool.false_eq_true,if_false] at h2
   obtain ⟨t,rfl,hv⟩:=h2
   simp at hts
   cases t with
   | v y =>
    rw [dg] at hts
    cases hts
    rw [show v=_ from hv.1]
   | any=>cases hts
   | s k d z r=>rw [au] at hts;cases hts
  ·exact absurd rfl h1
  ·simp only [List.cons.injEq,Prod.mk.injEq,and_true] at h1
   rw [h1.2] at hts
   simp at hts
 | [],hr,R=>simp [erR] at hr
 | a::b::c,hr,R=>simp [erR] at hr
end Go.Proofs.YtgaiiephdjllkaaGreatDoor.Am
namespace Go.Proofs.YtgaiiephdjllkaaGreatDoor.Am
set_option linter.unusedVariables false
set_option linter.unusedSimpArgs false
open Go
def Ev (P:Nat→Prop):Prop:=∃ N,∀ k,N≤k→P k
theorem Ev.c {p:Prop} (h:p):Ev fun _=>p:=⟨0,fun _ _=>h⟩
theorem Ev.mono {P Q:Nat→Prop} (h:Ev P) (f:∀ k,P k→Q k):Ev Q:=by
 obtain ⟨N,h⟩:=h
 exact ⟨N,fun k hk=>f k (h k hk)⟩
theorem Ev.and {P Q:Nat→Prop} (h:Ev P) (g:Ev Q):Ev fun k=>P k∧Q k:=by
 obtain ⟨N,h⟩:=h
 obtain ⟨M,g⟩:=g
 exact ⟨max N M,fun k hk=>⟨h k (by omega),g k (by omega)⟩⟩
def AllE:List (Nat→Prop)→Prop
 | []=>True
 | φ::φs=>Ev φ∧AllE φs
theorem AllE.ev:∀ {φ:List (Nat→Prop)},AllE φ→Ev fun k=>cP (φ.map fun ψ=>ψ k)
 | [],_=>⟨0,fun _ _=>trivial⟩
 | _::_,h=>(Ev.and h.1 (AllE.ev h.2)).mono fun _ h=>h
structure Env where
 tab:Tab
 fns:FuncId→Option Func
 hints:FuncId→gz
 orc:Sem1→Sem1
noncomputable abbrev Env.C (E:Env) (k:Nat):Sem1:=om E.tab E.fns E.hints E.orc k
def Does (E:Env) (f:FuncId) (as:List (Sl Unit Unit)) (rs:URes):Prop:=Ev fun k=>E.C k f as=some rs
theorem JF {E:Env} {f:FuncId} {fn:Func} {as:List (Sl Unit Unit)} (p:List Dc) {rs:URes} (φ:List (Nat→Prop))
  (hf:E.fns f=some fn) (ho:∀ C,E.orc C f as=none) (h:∀ k,y5 E.tab E.fns (E.C k) (E.hints f) k f fn as p=some (rs,φ.map fun ψ=>ψ k)) (hφ:AllE φ):Does E f as rs:=by
 obtain ⟨N,hN⟩:=hφ.ev
 refine ⟨N+1,fun k hk => ?_⟩
 obtain ⟨k,rfl⟩:∃ j,k=j+1:=⟨k-1,by omega⟩
 exact FA p hf (ho _) (h k) (hN k (by omega))
theorem Does.orc {E:Env} {f:FuncId} {as:List (Sl Unit Unit)} {rs:URes} (h:Ev fun k=>E.orc (E.C k) f as=some rs):Does E f as rs:=by
 obtain ⟨N,h⟩:=h
 refine ⟨N+1,fun k hk => ?_⟩
 obtain ⟨k,rfl⟩:∃ j,k=j+1:=⟨k-1,by omega⟩
 show om E.tab E.fns E.hints E.orc (k+1) f as=some rs
 simp only [om]
 rw [h k (by omega)]
theorem JM {E:Env} {f:FuncId} {as:List (Sl Unit Unit)} {rs rs':URes} (h:Does E f as rs) (e:rs=rs'):Does E f as rs':=e ▸ h
theorem AD {E:Env} {f:FuncId} {as:List (Sl Unit Unit)} {rs:URes} {φ:List (Nat→Prop)} (h:Does E f as rs) (t:AllE φ):AllE ((fun k=>E.C k f as=some rs)::φ):=⟨h,t⟩
theorem AV {ψ:Nat→Prop} {φ:List (Nat→Prop)} (h:Ev ψ) (t:AllE φ):AllE (ψ::φ):=⟨h,t⟩
theorem AC {p:Prop} {φ:List (Nat→Prop)} (h:p) (t:AllE φ):AllE ((fun _=>p)::φ):=⟨⟨0,fun _ _=>h⟩,t⟩
theorem AN:AllE []:=trivial
theorem JO {E:Env} {f:FuncId} {as:List (Sl Unit Unit)} {b b':Bool} (h:Does E f as [(false,[.v (.bool b)])]) (e:b=b'):Does E f as [(false,[.v (.bool b')])]:=e ▸ h
abbrev rT:Dc := .ret [(false,[.v (.bool true)])]
abbrev rF:Dc := .ret [(false,[.v (.bool false)])]
abbrev tI (n:Int):T Unit := .v (.int .i64 n)
abbrev tY (n:Int):T Unit := .v (.int .u8 n)
abbrev tB (b:Bool):T Unit := .v (.bool b)
abbrev tS (s:ByteArray):T Unit := .v (.string s)
def mf:Code→List Code
 | .seq x y=>mf x++mf y
 | .cond _ x y=>mf x++mf y
 | .block _ c=>mf c
 | .loop c=>c::mf c
 | _=>[]
def av (fn:Func) (i:Nat):Code:=(mf (fn.body.getD .skip)).getD i .skip
def Round (E:Env) (f:FuncId) (c:Code) (D:US) (e:Exit) (D':US):Prop :=
 Ev fun k=>∀ (R:Type) (K:Exit→US→Option R),(dU E.tab E.fns (E.C k) (E.hints f) k c D fun e D'=>K e (canon (E.hints f) c e D'))=K e D'
noncomputable def AW (E:Env) (f:FuncId) (k:Nat) (c:Code) (D:US) (p:List Dc):Option ((Exit×US)×List Prop) :=
 match kG E.tab E.fns (E.C k) (E.hints f) k c D p with
 | some ((e,D1),_,φ)=>some ((e,canon (E.hints f) c e D1),φ)
 | none=>none
theorem JE {E:Env} {f:FuncId} {c:Code} {D:US} (p:List Dc) {e:Exit} {D':US} (φ:List (Nat→Prop)) (h:∀ k,AW E f k c D p=some ((e,D'),φ.map fun ψ=>ψ k)) (hφ:AllE φ):Round E f c D e D' :=
 hφ.ev.mono fun k hk R K=>by
  have h:=h k
  unfold AW at h
  split at h
  ·rename_i e' D1 r φ' hr
   cases h
   exact mm c hr hk _
  ·cases h
abbrev C1 (E:Env) (f:FuncId) (c:Code) (D:US) (e:Exit) (D':US) (k m:Nat):Prop :=
 ∀ (R:Type) (K:Exit→US→Option R),nA (fun D K=>dU E.tab E.fns (E.C k) (E.hints f) k c D fun e D'=>K e (canon (E.hints f) c e D')) m D K=K e D'
def Loops (E:Env) (f:FuncId) (c:Code) (D:US) (e:Exit) (D':US):Prop:=∃ N,∀ k,N≤k→∀ m,N≤m→C1 E f c D e D' k m
theorem Loops.ev {E:Env} {f:FuncId} {c:Code} {D:US} {e:Exit} {D':US} (h:Loops E f c D e D'):Ev fun k=>C1 E f c D e D' k k:=by
 obtain ⟨N,h⟩:=h
 exact ⟨N,fun k hk=>h k hk k hk⟩
theorem JI {E:Env} {f:FuncId} {c:Code} {D:US} {e:Exit} {D':US} (h:Round E f c D e D') (hn:e ≠ .normal):Loops E f c D e D':=by
 obtain ⟨N,h⟩:=h
 refine ⟨N+1,fun k hk m hm R K => ?_⟩
 obtain ⟨m,rfl⟩:∃ j,m=j+1:=⟨m-1,by omega⟩
 simp only [nA]
 refine (h k (by omega) R _).trans ?_
 cases e with
 | normal=>exact absurd rfl hn
 | _=>rfl
theorem JH {E:Env} {f:FuncId} {c:Code} {D:US} {e:Exit} {D1 D':US} (h:Round E f c D .normal D1) (g:Loops E f c D1 e D'):Loops E f c D e D':=by
 obtain ⟨N,h⟩:=h
 obtain ⟨M,g⟩:=g
 refine ⟨N+M+1,fun k hk m hm R K => ?_⟩
 obtain ⟨m,rfl⟩:∃ j,m=j+1:=⟨m-1,by omega⟩
 simp only [nA]
 refine (h k (by omega) R _).trans ?_
 exact g k (by omega) m (by omega) R K
def Ans {α:Type} (o:Option α) (Q:α→Prop):Prop:=∀ r,o=some r→Q r
theorem JG {α:Type} {r:α} {Q:α→Prop} (h:Q r):Ans (some r) Q:=fun _ e=>by cases e;exact h
theorem Ans.none {α:Type} {Q:α→Prop}:Ans (none:Option α) Q:=fun _ e=>by cases e
theorem JJ {α:Type} {Q:α→Prop} {c:Bool} {a b:Option α} (t:c=true→Ans a Q) (f:c=false→Ans b Q):Ans (cond c a b) Q:=by
 cases c
 ·exact f rfl
 ·exact t rfl
theorem JK {α β:Type} {Q:β→Prop} {x:Option α} {f:α→Option β} (h:∀ y,x=Option.some y→Ans (f y) Q):Ans (x.bind f) Q:=by
 intro r e
 rw [Option.bind_eq_some_iff] at e
 obtain ⟨y,h1,h2⟩:=e
 exact h y h1 r h2
theorem JL {α:Type} {Q:α→Prop} {p:Prop} [Decidable p] {a:Option α} (h:p→Ans a Q):Ans (if p then a else Option.none) Q:=by
 intro r e
 split at e
 ·exact h ‹_› r e
 ·cases e
theorem Ans.mono {α:Type} {Q Q':α→Prop} {o:Option α} (h:Ans o Q) (f:∀ x,Q x→Q' x):Ans o Q':=fun r e=>f r (h r e)
def stL (n:Nat) (l:List (Nat×Sl Unit Unit)):US:=l.foldl (fun D p=>D.set p.1 p.2) (List.replicate n .any)
theorem JN {E:Env} {f:FuncId} {as as':List (Sl Unit Unit)} {rs:URes} (e:as=as') (h:Does E f as' rs):Does E f as rs:=e ▸ h
def etI (n:Int):List (T Unit):=[tI n]
def etY (n:Int):List (T Unit):=[tY n]
def etB (n:Bool):List (T Unit):=[tB n]
def etS (n:ByteArray):List (T Unit):=[tS n]
def aN {α:Type} (l:List α) (n:Int):Option α:=if 0≤n then l[n.toNat]? else none
theorem oL {α:Type} {l:List α} {n:Int} {x:α} (h:aN l n=some x):0≤n∧l[n.toNat]?=some x:=by
 unfold aN at h
 split at h
 ·exact ⟨‹_›,h⟩
 ·cases h
theorem E2 {α β:Type} {l:List α} {n:Int} {x:α} {f:α→β} (h:aN l n=some x):0≤n∧(l.map f)[n.toNat]?=some (f x):=by
 obtain ⟨h1,h2⟩:=oL h
 exact ⟨h1,by rw [List.getElem?_map,h2];rfl⟩
theorem eY {α β:Type} {l:List α} {n:Int} {x:α} {f:α→β} (h:aN l n=some x):(l.map f)[0+n.toNat]?=some (f x):=by
 rw [Nat.zero_add];exact (E2 h).2
theorem kz {α β:Type} {l:List α} {n:Int} {x:α} {f:α→β} (h:aN l n=some x):0≤n∧n<((l.map f).length:Int):=by
 obtain ⟨h1,h2⟩:=oL h
 refine ⟨h1,?_⟩
 have:n.toNat<l.length:=by
  rcases Nat.lt_or_ge n.toNat l.length with g | g
  ·exact g
  ·rw [List.getElem?_eq_none g] at h2;cases h2
 rw [List.length_map];omega
theorem eQ {α β:Type} {l:List α} {n:Nat} {x':α} {f:α→β} {r:β} (h:r=f x'):(l.map f).set (0+n) r=(l.set n x').map f:=by
 rw [h,List.map_set,Nat.zero_add]
theorem mR {α β:Type} {n:Nat} {x:α} {f:α→β} {r:β} (h:r=f x):List.replicate n r=(List.replicate n x).map f:=by rw [List.map_replicate,h]
theorem HD {α β:Type} {l:List α} {f:α→β}:((l.map f).length:Int)=(l.length:Int):=by rw [List.length_map]
theorem GF {α:Type} {l l2:List α} {f:α→List (T Unit)} {n:Nat} (hf:∀ x,(f x).all T.flat=true) (h:(l.length+l2.length)*n≤140737488355328∧l.length+l2.length≤4611686018427387904) :
  (l2.map f).all (fun r=>r.all T.flat)=true∧((l.map f).length+(l2.map f).length)*n≤140737488355328∧(l.map f).length+(l2.map f).length≤4611686018427387904:=by
 refine ⟨?_,by simpa using h.1,by simpa using h.2⟩
 rw [List.all_map,List.all_eq_true]
 exact fun x _=>hf x
theorem Ew {α β:Type} {l l2:List α} {f:α→β}:l.map f++l2.map f=(l++l2).map f:=by rw [List.map_append]
theorem vT:∀ (l:List Int),cU (l.map etY)=some l
 | []=>rfl
 | n::l=>by
  show (cU (l.map etY)).map _=_
  rw [vT l];rfl
theorem Bm {l:List Int}:(cU (l.map etY)).map strOfNums=some (strOfNums l):=by rw [vT];rfl
def bH (s:ByteArray):List Int:=s.data.toList.map fun b=>(b.toNat:Int)
theorem Does.plain {P:Program} {E:Env} (ht:a8 P E.tab) (hf:gG P E.fns) {B:Base} (ho:∀ C,CallsOk P B C→CallsOk P B (E.orc C)) {f:FuncId} {as:List (Sl Unit Unit)} {x:Value} (h:Does E f as [(false,[.v x])]) {w:World} (hB:B.ok w []) {ad:List DSl} {vs:List Value} (he:ad.map Sl.er=as) (hA:ArgsIn w ad vs) :
  Calls P f vs.toArray w fun e w'=>e = .returned x∧RowKit.Below w.heap.size w w':=by
 obtain ⟨N,h⟩:=h
 exact CallsOk.plain (q9 ht hf E.hints ho N) (h N (Nat.le_refl _)) hB he hA
end Go.Proofs.YtgaiiephdjllkaaGreatDoor.Am
namespace Go.Proofs.YtgaiiephdjllkaaGreatDoor.Am
set_option linter.unusedVariables false
set_option linter.unusedSimpArgs false
open Go
class ak (α:Type) where
 sm:α→Prop
instance:ak Int:=⟨fun _=>True⟩
instance:ak Bool:=⟨fun _=>True⟩
instance:ak ByteArray:=⟨fun s=>s.size≤1050000⟩
instance {α:Type} [ak α]:ak (List α):=⟨fun l=>l.length≤1050000∧∀ y∈l,ak.sm y⟩
theorem de (n:Int) (h : -9223372036854775808≤n) (h':n≤9223372036854775807):IntKind.wrap .i64 n=n:=by
 simp only [IntKind.wrap,IntKind.bits,IntKind.signed]
 simp
 omega
abbrev inc (x:Int):Int:=IntKind.wrap .i64 (x+(1:Int))
theorem fg (x:Int) (h : -9223372036854775809≤x) (h':x<9223372036854775807):inc x=x+1:=de _ (by omega) (by omega)
theorem fN {α:Type} (l:List α) (i:Nat):aN l (i:Int)=l[i]?:=by unfold aN;rw [if_pos (by omega)];simp
theorem GQ (i:Nat) (h:i<9223372036854775807):IntKind.wrap .i64 ((i:Int)+1)=((i+1:Nat):Int):=by rw [de _ (by omega) (by omega)];omega
theorem dh {α:Type} {l:List α} {n:Int} {x y:α} (h:aN l n=some x):aN (l.set n.toNat y) n=some y:=by
 obtain ⟨h1,h2⟩:=oL h
 have hlt:n.toNat<l.length:=by
  rcases Nat.lt_or_ge n.toNat l.length with g | g
  ·exact g
  ·rw [List.getElem?_eq_none g] at h2;cases h2
 unfold aN
 rw [if_pos h1,List.getElem?_set_self hlt]
theorem mr {α β:Type} {l:List α} {n:Nat} {x x':α} {f:α→β} {r:β} (h:r=f x'):((l.set n x).map f).set (0+n) r=(l.set n x').map f:=by
 rw [eQ h,List.set_set]
section
variable {α : Type} {l : List α} {i : Nat} {x : α} {r : List α}
theorem bG (h:l.drop i=[]):decide ((i:Int)<(l.length:Int))=false:=decide_eq_false (by have:=List.drop_eq_nil_iff.1 h;omega)
theorem nW (h:l.drop i=x::r):i<l.length:=by
 rcases Nat.lt_or_ge i l.length with g | g
 ·exact g
 ·rw [List.drop_eq_nil_of_le g] at h;cases h
theorem bm (h:l.drop i=x::r):decide ((i:Int)<(l.length:Int))=true:=decide_eq_true (by have:=nW h;omega)
theorem bo (h:l.drop i=x::r):aN l (i:Int)=some x:=by
 have hi:=nW h
 rw [List.drop_eq_getElem_cons hi] at h
 cases h
 rw [fN,List.getElem?_eq_getElem hi]
theorem bn (h:l.drop i=x::r) (hl:l.length≤9223372036854775807):inc (i:Int)=((i+1:Nat):Int):=GQ i (by have:=nW h;omega)
theorem aK (h:l.drop i=x::r):l.drop (i+1)=r:=by
 have hi:=nW h
 rw [List.drop_eq_getElem_cons hi] at h
 cases h;rfl
end
section
variable {α : Type} {done rest : List α} {i : Nat} {hd x : α}
theorem As (h:i=done.length):decide ((i:Int)<(done.length:Int))=false:=decide_eq_false (by omega)
theorem w9 (h:i=done.length):decide ((i:Int)<((done++hd::rest).length:Int))=true:=decide_eq_true (by simp;omega)
theorem xa (h:i=done.length) (hl:(done++hd::rest).length≤9223372036854775807):inc (i:Int)=((i+1:Nat):Int):=GQ i (by simp at hl;omega)
theorem At (h:i=done.length):aN (done++hd::rest) (i:Int)=some hd:=by rw [fN,h];simp
theorem uZ (h:i=done.length):(done++hd::rest).set (i:Int).toNat x=(done++[x])++rest:=by
 subst h
 simp
end
theorem gW (s:ByteArray):(bH s).length=s.size:=by unfold bH;simp
theorem pC (s:ByteArray) (i:Nat) (h:i<s.size):(bH s)[i]?=some (fk s (i:Int)):=by
 unfold bH fk
 rw [List.getElem?_map]
 have hs:i<s.data.size:=h
 simp only [Int.toNat_natCast]
 have:s[i]?=some s[i]:=getElem?_pos s i h
 rw [this]
 simp only [Array.getElem?_toList,Array.getElem?_eq_getElem hs,Option.map_some,Option.getD_some]
 rfl
section
variable {s : ByteArray} {i : Nat} {x : Int} {r : List Int}
theorem nV (h:(bH s).drop i=[]):decide ((i:Int)<(s.size:Int))=false:=by rw [← gW];exact bG h
theorem mO (h:(bH s).drop i=x::r):decide ((i:Int)<(s.size:Int))=true:=by rw [← gW];exact bm h
theorem mP (h:(bH s).drop i=x::r) (hl:s.size≤9223372036854775807):inc (i:Int)=((i+1:Nat):Int):=bn h (by rw [gW];exact hl)
theorem pT (h:(bH s).drop i=x::r):0≤(i:Int)∧(i:Int)<(s.size:Int):=by
 have:=nW h
 rw [gW] at this
 omega
theorem pS (h:(bH s).drop i=x::r):x=fk s (i:Int):=by
 have hi:=nW h
 have h2:=bo h
 rw [gW] at hi
 rw [fN,pC s i hi] at h2
 cases h2;rfl
end
class Wf (α:Type) where
 wf:α→Prop
instance:Wf Int:=⟨fun _=>True⟩
instance:Wf Bool:=⟨fun _=>True⟩
instance:Wf ByteArray:=⟨fun s=>s.size≤9223372036854775807⟩
instance {α:Type} [Wf α]:Wf (List α):=⟨fun l=>l.length≤9223372036854775807∧∀ y∈l,Wf.wf y⟩
def yes {α:Type} (a b:α):Bool:=true
def Tot {α:Type} (o:Option α):Prop:=∃ b,o=some b
theorem Tot.some {α:Type} (b:α):Tot (some b):=⟨b,rfl⟩
theorem Tot.cond {α:Type} {c:Bool} {a b:Option α} (h:Tot a) (g:Tot b):Tot (cond c a b):=by cases c;exact g;exact h
theorem Tot.ite {α:Type} {p:Prop} [Decidable p] {a:Option α} (hp:p) (h:Tot a):Tot (if p then a else none):=by rw [if_pos hp];exact h
theorem Tot.bind {α β:Type} {a:Option α} {f:α→Option β} (h:Tot a) (g:∀ y,a=Option.some y→Tot (f y)):Tot (a.bind f):=by obtain ⟨b,rfl⟩:=h;exact g b rfl
theorem Tot.getD {α:Type} {o:Option α} (h:Tot o) (d:α):o=Option.some (o.getD d):=by obtain ⟨b,rfl⟩:=h;rfl
theorem mT {e:Int} {k:Option Int} {r:Int} (h:cond (decide (e<(0:Int))) (some (-1:Int)) k=some r) (hr:0≤r):0≤e∧k=some r:=by
 by_cases q:e<0
 ·rw [decide_eq_true q] at h;simp at h;omega
 ·rw [decide_eq_false q] at h;exact ⟨by omega,h⟩
theorem ri {n:Int} {k:Nat} (h0:0≤n) (h1:n≤1048576) (hk:k≤9223372036854775807) (h:0≤IntKind.wrap .i64 (n-(k:Int))):IntKind.wrap .i64 (n-(k:Int))≤n∧k≤1048576:=by
 rw [de _ (by omega) (by omega)] at h ⊢
 omega
theorem CY {α:Type} {v:List α} {i:Nat} {y:α} (hi:i<v.length):(v.set i y).take (i+1)=v.take i++[y]:=by
 rw [List.take_add_one,List.getElem?_set_self hi,List.take_set_of_le (Nat.le_refl i)]
 rfl
theorem hZ {α:Type} [ak α] {l:List α} (h:ak.sm l):l.length≤9223372036854775807:=Nat.le_trans h.1 (by decide)
theorem kZ {n:Nat} (h:n≤1048576):n≤1050000:=Nat.le_trans h (by decide)
theorem Fg {n k:Nat} (b:Nat) (hb:b≤1000) (h:n≤1050000) (hk:k=n):0≤(n:Int)∧(n:Int)≤(k:Int)∧((b:Nat):Int)*(k:Int)≤281474976710656∧(k:Int)≤4611686018427387904:=by
 subst hk
 have:b*k≤1000*1050000:=Nat.mul_le_mul hb h
 have h2:((b*k:Nat):Int)=(b:Int)*(k:Int):=by push_cast;rfl
 refine ⟨by omega,by omega,?_,by omega⟩
 rw [← h2];omega
theorem Hb {c:Bool} {k:Option Bool} (h:c=false→k=some true):cond c (some true) k=some true:=by
 cases c
 ·exact h rfl
 ·rfl
theorem HC {p:Prop} [Decidable p] {k:Option Bool} (hp:p) (h:k=some true):(if p then k else none)=some true:=by rw [if_pos hp];exact h
theorem HZ {c:Int} {k:Option Bool} (h:0≤c→k=some true):cond (decide (c<(0:Int))) (some true) k=some true:=by
 refine Hb fun q=>h ?_
 rw [decide_eq_false_iff_not] at q;omega
end Go.Proofs.YtgaiiephdjllkaaGreatDoor.Am
namespace Go.Proofs.YtgaiiephdjllkaaGreatDoor.Am
set_option linter.unusedVariables false
set_option linter.unusedSimpArgs false
open Go
def aS {α:Type} (enc:α→Value) (l:List α):List (List DT):=l.map fun x=>[.v (enc x)]
theorem AX {α:Type} [Inhabited α] (enc:α→Value) (l:List α) {i:Nat} (h:i<l.length):(aS enc l)[i]?=some [.v (enc l[i]!)]:=by
 unfold aS
 rw [List.getElem?_map,List.getElem?_eq_getElem h,getElem!_pos l i h]
 rfl
theorem xV {α:Type} (enc:α→Value) (l:List α):((aS enc l).flatMap fun x=>x.flatMap bl)=[]:=by
 rw [List.flatMap_eq_nil_iff]
 intro r hr
 obtain ⟨x,_,rfl⟩:=List.mem_map.1 hr
 rfl
theorem zj {α:Type} (enc:α→Value) (l:List α) {d:Dec} (h:d.nil=false) (k:Kd):bl (.s k d 1 (aS enc l))=[d.b]:=by
 rw [bW,h,xV];rfl
theorem tG {α:Type} (enc:α→Value) (l:List α):(aS enc l).map erL=l.map fun x=>[.v (enc x)]:=by
 unfold aS
 rw [List.map_map]
 rfl
theorem xd {α:Type} [Inhabited α] (enc:α→Value) {w:World} {d:Dec} {l:List α} (hne:l≠[]) (hH:Holds w (.s .own d 1 (aS enc l))) (hO:OwnT w (.s .own d 1 (aS enc l))) :
  Go.Sort.Holds enc w d.b d.o l.toArray∧d.b<w.heap.size∧l.length≤d.cap∧d.addr=some ⟨d.b,d.o,none⟩∧d.nil=false:=by
 have hpos:0<l.length:=List.length_pos_iff.2 hne
 generalize hr:aS enc l=rows at *
 have hlen:rows.length=l.length:=by rw [← hr];simp [aS]
 cases hH with
 | e=>simp at hlen;omega
 | s _ _ _ _ q1 q2 c e f q3 q4 q5 q6 q7 =>
  cases hO with
  | nil=>simp at hlen;omega
  | s _ _ _ p1 p2 c' e' lo hi p3 p4 p5 p6 p7 =>
   rw [q3] at p3
   cases p3
   refine ⟨fun j hj => ?_,cO q3,by omega,by rw [Dec.addr_none q2,q1];rfl,q1⟩
   have hj':j<l.length:=by simpa using hj
   have hg:rows[j]?=some [.v (enc l[j]!)]:=by rw [← hr];exact AX enc l hj'
   obtain ⟨y,hy,hv⟩:=q6 j _ 0 _ hg rfl
   have e1:d.o+j*1+0=d.o+j:=by omega
   rw [e1] at hy
   have e2:(l.toArray[j]!)=l[j]! := by rw [getElem!_pos l.toArray j hj,getElem!_pos l j hj'];simp
   refine ⟨?_,?_⟩
   ·unfold World.cell?
    simp only [q3]
    rw [e2]
    simp only [Option.isSome_none,Bool.false_eq_true,if_false]
    rw [hy,show y=_ from hv.1]
   ·unfold World.frozen?
    simp only [q3]
    have:=p6 (d.o+j) (by omega) (by omega)
    by_cases z:lo≤d.o+j
    ·simp [z];omega
    ·simp [z]
theorem yB {α:Type} [Inhabited α] (enc:α→Value) (off:Nat) (d:Array α) (c:Array Value):(Go.Sort.putCells enc off d c).size=c.size:=by simp [Go.Sort.putCells]
theorem AQ {α:Type} [Inhabited α] (enc:α→Value) (off:Nat) (d:Array α) (c:Array Value) {j:Nat} (h:j<d.size) (hc:off+j<c.size):(Go.Sort.putCells enc off d c)[off+j]?=some (enc d[j]!):=by
 simp only [Go.Sort.putCells,Array.getElem?_mapIdx,Array.getElem?_eq_getElem hc,Option.map_some]
 rw [if_pos ⟨by omega,by omega⟩]
 congr 3
 omega
theorem ul {α:Type} [Inhabited α] (enc:α→Value) (w:World) (q b off:Nat) (d:Array α) (x:Nat):(Go.Sort.putRow enc (Go.Sort.ahead w q) b off d).heap[x]?=if b=x then (w.heap[x]?).map (Go.Sort.onCells (Go.Sort.putCells enc off d)) else w.heap[x]?:=by
 unfold Go.Sort.putRow Go.Sort.mapBlock Go.Sort.ahead
 simp only [Array.getElem?_modify]
theorem CN {α:Type} [Inhabited α] (enc:α→Value) (hone:∀ x,(enc x).oneCell'=true) {w:World} {d:Dec} {l:List α} (hne:l≠[]) (hH:Holds w (.s .own d 1 (aS enc l))) (hO:OwnT w (.s .own d 1 (aS enc l))) (q:Nat) {l':List α}
  (hl:l'.length=l.length) {l2:List α} (hp:l2 <+: l') :
  Holds (Go.Sort.putRow enc (Go.Sort.ahead w q) d.b d.o l'.toArray) (.s .own d 1 (aS enc l2))∧OwnT (Go.Sort.putRow enc (Go.Sort.ahead w q) d.b d.o l'.toArray) (.s .own d 1 (aS enc l2)) ∧
   GrewH [d.b] w (Go.Sort.putRow enc (Go.Sort.ahead w q) d.b d.o l'.toArray):=by
 obtain ⟨k1,k2,k3,k4,k5⟩:=xd enc hne hH hO
 have hpos:0<l.length:=List.length_pos_iff.2 hne
 have hl2:l2.length≤l'.length:=hp.length_le
 generalize hr:aS enc l=rows at *
 have hlen:rows.length=l.length:=by rw [← hr];simp [aS]
 cases hH with
 | e=>simp at hlen;omega
 | s _ _ _ _ q1 q2 c e f q3 q4 q5 q6 q7 =>
  cases hO with
  | nil=>simp at hlen;omega
  | s _ _ _ p1 p2 c' e' lo hi p3 p4 p5 p6 p7 =>
   rw [q3] at p3
   cases p3
   have hb:(Go.Sort.putRow enc (Go.Sort.ahead w q) d.b d.o l'.toArray).heap[d.b]?=some (.cells (Go.Sort.putCells enc d.o l'.toArray c) e (lo,hi)):=by
    rw [ul,if_pos rfl,q3];rfl
   have hr2:∀ (i:Nat) (row:List DT),(aS enc l2)[i]?=some row→i<l2.length∧row=[.v (enc l2[i]!)]:=by
    intro i row h
    have hi:i<l2.length:=by
     rcases Nat.lt_or_ge i l2.length with g | g
     ·exact g
     ·rw [List.getElem?_eq_none (by simpa [aS] using g)] at h;cases h
    rw [AX enc l2 hi] at h
    cases h
    exact ⟨hi,rfl⟩
   have hget:∀ i,i<l2.length→l2[i]! = l'.toArray[i]! := by
    intro i hi
    rw [getElem!_pos l2 i hi,getElem!_pos l'.toArray i (by simp;omega)]
    simp only [List.getElem_toArray]
    exact (hp.getElem hi)
   have hsz:d.o+l.length≤c.size:=by
    have:=Nat.le_trans p4 (Nat.le_refl _)
    have h2:d.o+d.cap*1≤c.size:=p5
    omega
   refine ⟨.s _ _ _ _ q1 q2 _ e (lo,hi) hb (by simp [aS];omega) (fun i row h=>by rw [(hr2 i row h).2];rfl) (fun i row j t h1 h2 => ?_) (fun i row j t h1 h2 => ?_),
    .s _ _ _ p1 p2 _ e lo hi hb (by simp [aS];omega) (by rw [yB];exact p5) p6 (fun i row j t h1 h2 => ?_),⟨rfl,rfl,rfl,?_,fun b hb hn => ?_⟩⟩
   ·obtain ⟨hi,rfl⟩:=hr2 i row h1
    cases j with
    | succ j=>simp at h2
    | zero =>
     simp only [List.getElem?_cons_zero,Option.some.injEq] at h2
     subst h2
     refine ⟨enc l2[i]!,?_,rfl,hone _⟩
     have e1:d.o+i*1+0=d.o+i:=by omega
     rw [e1,AQ enc d.o l'.toArray c (by simp;omega) (by omega),hget i hi]
   ·obtain ⟨hi,rfl⟩:=hr2 i row h1
    cases j with
    | succ j=>simp at h2
    | zero=>simp only [List.getElem?_cons_zero,Option.some.injEq] at h2;subst h2;exact .v _
   ·obtain ⟨hi,rfl⟩:=hr2 i row h1
    cases j with
    | succ j=>simp at h2
    | zero=>simp only [List.getElem?_cons_zero,Option.some.injEq] at h2;subst h2;exact .v _
   ·show w.heap.size≤(w.heap.modify d.b _).size
    simp
   ·rw [ul,if_neg (fun h=>hn (by simp [h]))]
end Go.Proofs.YtgaiiephdjllkaaGreatDoor.Am
namespace Go.Proofs.YtgaiiephdjllkaaGreatDoor.Am
set_option linter.unusedVariables false
set_option linter.unusedSimpArgs false
open Go
theorem Fl {s:DSl} {x:Value} (h:s.er = .one (.v x)):s = .one (.v x):=by
 cases s with
 | one t =>
  simp only [Sl.er,Sl.one.injEq] at h
  cases t with
  | v y=>rw [dg] at h;cases h;rfl
  | any=>cases h
  | s k d z r=>rw [au] at h;cases h
 | _=>simp [Sl.er] at h
theorem uk {w:World} {X:List Nat}:∀ {xs:List Value} {ad:List DSl} {vs:List Value},ad.map Sl.er=xs.map (fun x=>(.one (.v x):Sl Unit Unit))→ArgsOk w X ad vs→vs=xs∧ad.flatMap ca=[]∧∀ a∈ad,a.isHome=false
 | [],[],vs,_,h=>by
  have:=h.1
  have:vs=[]:=List.length_eq_zero_iff.1 this.symm
  subst this
  exact ⟨rfl,rfl,fun a ha=>by cases ha⟩
 | [],a::ad,vs,e,_=>by simp at e
 | x::xs,[],vs,e,_=>by simp at e
 | x::xs,a::ad,vs,e,h=>by
  simp only [List.map_cons,List.cons.injEq] at e
  have ha:=Fl e.1
  subst ha
  match vs,h with
  | [],h=>have:=h.1;simp at this
  | v::vs,h =>
   have hv:=(h.2.1 0 _ v rfl rfl).val []
   have hr:ArgsOk w X ad vs:=⟨by simpa using h.1,fun i a' y' q1 q2=>h.2.1 (i+1) a' y' (by simpa using q1) (by simpa using q2),fun b=>by
    have:=h.2.2 b
    rw [List.flatMap_cons,List.count_append] at this
    omega⟩
   obtain ⟨h1,h2,h3⟩:=uk e.2 hr
   refine ⟨by rw [h1,show v=x from hv.1],?_,fun s hs => ?_⟩
   ·rw [List.flatMap_cons,h2];rfl
   ·rcases List.mem_cons.1 hs with rfl | hs
    ·rfl
    ·exact h3 s hs
theorem OutsOk.nil' {w':World}:∀ {ad:List DSl} {vs:List Value},ad.length=vs.length→(∀ a∈ad,a.isHome=false)→OutsOk w' ad vs []
 | [],vs,h,_=>by
  have:vs=[]:=List.length_eq_zero_iff.1 h.symm
  subst this
  rfl
 | a::ad,[],h,_=>by simp at h
 | a::ad,v::vs,h,hh=>by
  have hk:=sC (hh a (by simp))
  unfold OutsOk
  rw [hk]
  exact OutsOk.nil' (by simpa using h) fun s hs=>hh s (by simp [hs])
theorem RetOk.plain {w w':World} {X:List Nat} {x:Value} (h:x.oneCell'=true):RetOk w X w' [] [] [(false,[.v x])] x where
 val := .inl ⟨_,rfl,by simp only [VPart,Bool.false_eq_true,if_false];exact ⟨_,rfl,rfl,h⟩⟩
 fine:=fun r hr t ht=>by rw [List.nil_append,List.mem_singleton] at hr;subst hr;rw [List.mem_singleton] at ht;subst ht;rfl
 holds:=fun r hr t ht=>by rw [List.nil_append,List.mem_singleton] at hr;subst hr;rw [List.mem_singleton] at ht;subst ht;exact .v _
 own:=fun r hr t ht _=>by rw [List.nil_append,List.mem_singleton] at hr;subst hr;rw [List.mem_singleton] at ht;subst ht;exact .v _
 once:=fun b=>by simp [ba,ownR,T.isOwn]
 new:=fun b hb=>by simp [ba,ownR,T.isOwn] at hb
theorem RetOk.tuple {w w':World} {X:List Nat} {xs:List Value} (h:∀ x∈xs,x.oneCell'=true) (hl:xs.length≠1):RetOk w X w' [] [] (xs.map fun x=>(false,[.v x])) (.tuple xs.toArray) where
 val := .inr (.inl ⟨by simpa using hl,xs.toArray,rfl,by simp,fun i r v h1 h2=>by
  rw [List.getElem?_map,Option.map_eq_some_iff] at h1
  obtain ⟨x,h3,rfl⟩:=h1
  have e:v=x:=by simp at h2;rw [h3] at h2;exact (Option.some.inj h2).symm
  subst e
  simp only [VPart,Bool.false_eq_true,if_false]
  exact ⟨_,rfl,rfl,h v (List.mem_of_getElem? h3)⟩⟩)
 fine:=fun r hr t ht=>by
  rw [List.nil_append] at hr
  obtain ⟨x,_,rfl⟩:=List.mem_map.1 hr
  rw [List.mem_singleton] at ht;subst ht;rfl
 holds:=fun r hr t ht=>by
  rw [List.nil_append] at hr
  obtain ⟨x,_,rfl⟩:=List.mem_map.1 hr
  rw [List.mem_singleton] at ht;subst ht;exact .v _
 own:=fun r hr t ht _=>by
  rw [List.nil_append] at hr
  obtain ⟨x,_,rfl⟩:=List.mem_map.1 hr
  rw [List.mem_singleton] at ht;subst ht;exact .v _
 once:=fun b=>by
  have:ba ([]++xs.map fun x=>(false,[(.v x:DT)]))=[]:=by
   unfold ba
   rw [List.flatMap_eq_nil_iff]
   intro r hr
   rw [List.nil_append] at hr
   obtain ⟨x,_,rfl⟩:=List.mem_map.1 hr
   rfl
  rw [this];simp
 new:=fun b hb=>by
  have:ba ([]++xs.map fun x=>(false,[(.v x:DT)]))=[]:=by
   unfold ba
   rw [List.flatMap_eq_nil_iff]
   intro r hr
   rw [List.nil_append] at hr
   obtain ⟨x,_,rfl⟩:=List.mem_map.1 hr
   rfl
  rw [this] at hb;cases hb
theorem RetOk.freshRow {α:Type} (enc:α→Value) (hone:∀ x,(enc x).oneCell'=true) {w w':World} {X:List Nat} {b cap:Nat} {l:List α} {cs:Array Value} {e:TypeId} {lo hi:Nat} (h:w'.heap[b]?=some (.cells cs e (lo,hi)))
  (hcs:∀ (j:Nat) (x:α),l[j]?=some x→cs[j]?=some (enc x)) (hl:l.length≤cap) (hcap:cap≤cs.size) (hf:∀ q,q<cap→¬ (lo≤q∧q<hi)) (hb:w.heap.size≤b∨b∈X) :
  RetOk w X w' [] [] [(false,[.s .own ⟨b,0,cap,false,none⟩ 1 (aS enc l)])] (.slice (some ⟨b,0,none⟩) l.length cap):=by
 have hlen:(aS enc l).length=l.length:=by simp [aS]
 have hrow:∀ (i:Nat) (row:List DT),(aS enc l)[i]?=some row→∃ x,l[i]?=some x∧row=[.v (enc x)]:=fun i row hr=>by
  unfold aS at hr
  rw [List.getElem?_map,Option.map_eq_some_iff] at hr
  obtain ⟨x,h1,rfl⟩:=hr
  exact ⟨x,h1,rfl⟩
 have hH:Holds w' (.s .own ⟨b,0,cap,false,none⟩ 1 (aS enc l)):=by
  refine .s _ _ _ _ rfl rfl _ e _ h (by rw [hlen];exact hl) (fun i row hr => ?_) (fun i row j u h1 h2 => ?_) (fun i row j u h1 h2 => ?_)
  ·obtain ⟨_,_,rfl⟩:=hrow i row hr;rfl
  ·obtain ⟨x,hx,rfl⟩:=hrow i row h1
   cases j with
   | zero =>
    simp only [List.getElem?_cons_zero,Option.some.injEq] at h2
    subst h2
    exact ⟨_,by simpa using hcs i x hx,rfl,hone x⟩
   | succ j=>simp at h2
  ·obtain ⟨x,hx,rfl⟩:=hrow i row h1
   cases j with
   | zero=>simp only [List.getElem?_cons_zero,Option.some.injEq] at h2;subst h2;exact .v _
   | succ j=>simp at h2
 have hO:OwnT w' (.s .own ⟨b,0,cap,false,none⟩ 1 (aS enc l)):=by
  refine .s _ _ _ rfl rfl _ e _ _ h (by rw [hlen];exact hl) (by simpa using hcap) (fun q h1 h2=>hf q (by simpa using h2)) (fun i row j u h1 h2 => ?_)
  obtain ⟨x,hx,rfl⟩:=hrow i row h1
  cases j with
  | zero=>simp only [List.getElem?_cons_zero,Option.some.injEq] at h2;subst h2;exact .v _
  | succ j=>simp at h2
 have hbl:ba ([]++[(false,[(.s .own ⟨b,0,cap,false,none⟩ 1 (aS enc l):DT)])])=[b]:=by
  simp only [ba,List.nil_append,List.flatMap_cons,List.flatMap_nil,List.append_nil,ownR,T.isOwn,if_true]
  exact zj enc l rfl _
 refine ⟨.inl ⟨_,rfl,?_⟩,?_,?_,?_,?_,?_⟩
 ·simp only [VPart,Bool.false_eq_true,if_false]
  exact ⟨_,rfl,by simp [VT,Dec.addr,hlen]⟩
 ·intro r hr t ht
  rw [List.nil_append,List.mem_singleton] at hr;subst hr;rw [List.mem_singleton] at ht;subst ht
  rfl
 ·intro r hr t ht
  rw [List.nil_append,List.mem_singleton] at hr;subst hr;rw [List.mem_singleton] at ht;subst ht;exact hH
 ·intro r hr t ht _
  rw [List.nil_append,List.mem_singleton] at hr;subst hr;rw [List.mem_singleton] at ht;subst ht;exact hO
 ·intro x
  rw [hbl]
  simp [List.count_cons]
  split<;>omega
 ·intro x hx
  rw [hbl,List.mem_singleton] at hx
  subst hx
  exact ⟨hb,cO h⟩
def jm:List (List (T Unit))→Option (List Int)
 | []=>some []
 | [.v (.int .i64 n)]::r=>(jm r).map (n :: ·)
 | _=>none
theorem ny:∀ (l:List Int),jm (l.map etI)=some l
 | []=>rfl
 | n::l=>by
  show (jm (l.map etI)).map _=_
  rw [ny l];rfl
theorem qQ:∀ {rows:List (List DT)} {l:List Int},jm (rows.map erL)=some l→rows=aS (Value.int .i64) l
 | [],l,h=>by cases h;rfl
 | r::rows,l,h=>by
  match r with
  | []=>cases h
  | [t] =>
   cases t with
   | any=>cases h
   | s k d z q=>simp only [List.map_cons,erL,List.map_nil,au] at h;cases h
   | v x =>
    cases x with
    | int k n =>
     cases k with
     | i64 =>
      have h':(jm (rows.map erL)).map (n :: ·)=some l:=h
      rw [Option.map_eq_some_iff] at h'
      obtain ⟨l',h1,rfl⟩:=h'
      rw [qQ h1];rfl
     | _=>cases h
    | _=>cases h
  | t::u::r=>cases t with
   | v x=>cases x with
    | int k n=>cases k<;>cases h
    | _=>cases h
   | any=>cases h
   | s k d z q=>simp only [List.map_cons,erL,au] at h;cases h
def oz:List (List (T Unit))→Option (List ByteArray)
 | []=>some []
 | [.v (.string s)]::r=>(oz r).map (s :: ·)
 | _=>none
theorem wq:∀ (l:List ByteArray),oz (l.map etS)=some l
 | []=>rfl
 | s::l=>by
  show (oz (l.map etS)).map _=_
  rw [wq l];rfl
theorem Bo:∀ {rows:List (List DT)} {l:List ByteArray},oz (rows.map erL)=some l→rows=aS Value.string l
 | [],l,h=>by cases h;rfl
 | r::rows,l,h=>by
  match r with
  | []=>cases h
  | [t] =>
   cases t with
   | any=>cases h
   | s k d z q=>simp only [List.map_cons,erL,List.map_nil,au] at h;cases h
   | v x =>
    cases x with
    | string n =>
     have h':(oz (rows.map erL)).map (n :: ·)=some l:=h
     rw [Option.map_eq_some_iff] at h'
     obtain ⟨l',h1,rfl⟩:=h'
     rw [Bo h1];rfl
    | _=>cases h
  | t::u::r=>cases t with
   | v x=>cases x<;>cases h
   | any=>cases h
   | s k d z q=>simp only [List.map_cons,erL,au] at h;cases h
theorem tE {s:DSl} {k:Kd} {z:Nat} {rows:List (List (T Unit))} (h:s.er = .one (.s k () z rows)):∃ d rowsD,s = .one (.s k d z rowsD)∧rowsD.map erL=rows:=by
 cases s with
 | one t =>
  simp only [Sl.er,Sl.one.injEq] at h
  cases t with
  | v y=>rw [dg] at h;cases h
  | any=>cases h
  | s k' d z' r=>rw [au] at h;cases h;exact ⟨d,r,rfl,rfl⟩
 | _=>simp [Sl.er] at h
theorem AL {E:Env} {f:FuncId} {c:Code} {D D':US} {e:Exit} {φ:List (Nat→Prop)} (h:Loops E f c D e D') (t:AllE φ):AllE ((fun k=>C1 E f c D e D' k k)::φ):=⟨h.ev,t⟩
theorem Round.to {E:Env} {f:FuncId} {c:Code} {D D1 D':US} {e:Exit} (h:Round E f c D e D1) (q:D1=D'):Round E f c D e D':=q ▸ h
theorem AG {α:Type} {l:List α} {n:Int} {x:α} (f:α→List (T Unit)) {φ:List (Nat→Prop)} (h:aN l n=some x) (t:AllE φ):AllE ((fun _=>0≤n∧n<((l.map f).length:Int))::(fun _=>(l.map f)[0+n.toNat]?=some (f x))::φ):=⟨Ev.c (kz h),Ev.c (eY h),t⟩
theorem AR {α:Type} {l:List α} {n:Int} {x:α} (f:α→List (T Unit)) {φ:List (Nat→Prop)} (h:aN l n=some x) (t:AllE φ):AllE ((fun _=>0≤n∧(l.map f)[n.toNat]?=some (f x))::φ):=⟨Ev.c (E2 h),t⟩
theorem ALn {α:Type} (l:List α) (f:α→List (T Unit)) {φ:List (Nat→Prop)} (t:AllE φ):AllE ((fun _=>((l.map f).length:Int)=(l.length:Int))::φ):=⟨Ev.c HD,t⟩
theorem AAp {α:Type} {l l2:List α} {n:Nat} (f:α→List (T Unit)) {φ:List (Nat→Prop)} (hf:∀ x,(f x).all T.flat=true) (h:(l.length+l2.length)*n≤140737488355328∧l.length+l2.length≤4611686018427387904) (t:AllE φ) :
  AllE ((fun _=>(((l2.map f).drop 0).take (l2.map f).length).all (fun r=>r.all T.flat)=true∧((l.map f).length+(((l2.map f).drop 0).take (l2.map f).length).length)*n≤140737488355328∧(l.map f).length+(((l2.map f).drop 0).take (l2.map f).length).length≤4611686018427387904)::(fun _=>(l.map f)++(((l2.map f).drop 0).take (l2.map f).length)=(l++l2).map f)::φ) :=
 ⟨Ev.c (by simp only [List.take_length,List.drop_zero];exact GF hf h),Ev.c (by simp only [List.take_length,List.drop_zero];exact Ew),t⟩
theorem RP {E:Env} {f:FuncId} {c:Code} {D:US} {e:Exit} {D':US} {φ:List (Nat→Prop)} (p:List Dc) (a:AllE φ) (h:∀ k,AW E f k c D p=some ((e,D'),φ.map fun ψ=>ψ k):=by intro k;kernel_rfl):Round E f c D e D':=JE p φ h a
theorem DP {E:Env} {f:FuncId} (fn:Func) {as:List (Sl Unit Unit)} {rs:URes} {φ:List (Nat→Prop)} (p:List Dc) (a:AllE φ) (h1:E.fns f=some fn:=by rfl) (h2:∀ C,E.orc C f as=none:=by intro C;rfl) (h:∀ k,y5 E.tab E.fns (E.C k) (E.hints f) k f fn as p=some (rs,φ.map fun ψ=>ψ k):=by intro k;kernel_rfl):Does E f as rs:=JF (fn:=fn) p φ h1 h2 h a
theorem aU {α:Type} (U:α):∀ n:Nat,bN (List.replicate n (some U)) U
 | 0=>trivial
 | n+1=>⟨rfl,aU U n⟩
end Go.Proofs.YtgaiiephdjllkaaGreatDoor.Am
