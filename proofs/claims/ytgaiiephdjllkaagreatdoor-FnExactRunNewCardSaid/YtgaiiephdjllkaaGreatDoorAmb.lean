/- An abstract machine over trees, and that its steps are sound, a part. Conditions: none. -/
import Derived.Test.YtgaiiephdjllkaaGreatDoorAma
import Derived.Laws.BytesArg
import Derived.Laws.IdiomStrings
import Derived.Orders
namespace Go.Proofs.YtgaiiephdjllkaaGreatDoor.Am
set_option linter.unusedVariables false
set_option linter.unusedSimpArgs false
open Go
section
variable {δ β : Type}
def qy (M:Mk δ β) (D:St δ β) (fl:Bool) (x:Operand):Option (Nat×List (List (T δ))×St δ β) :=
 match fl with
 | true =>
  match cellsCopy M D x with
  | some (false,[.s _ _ z2 rows2])=>if rows2.all (fun r=>r.all T.flat)=true then some (z2,rows2,D) else none
  | _=>none
 | false =>
  match cellsTake M D x with
  | some (false,[.s .own _ z2 rows2],D2)=>some (z2,rows2,D2)
  | _=>none
def jd (M:Mk δ β) (F:jw δ β) (tab:Tab) (D:St δ β) (dst:Option Nat) (t t2:Nat) (s x:Operand):Option (St δ β) :=
 match tab.ti t,tab.ti t2,dst,cellsTake M D s with
 | some ⟨_,_,_,.slice e⟩,some ⟨_,_,_,.slice _⟩,some d',some (false,[.s .own d z rows],D1) =>
  match tab.ti e with
  | some te =>
   match qy M D1 (te.zero.all T.flat) x with
   | some (z2,rows2,D2) =>
    if d'<D2.length∧te.size=z∧te.size≠0∧te.zero.length=te.size∧z2=z then
     if (rows.length+rows2.length)*te.bytes≤140737488355328∧rows.length+rows2.length≤4611686018427387904 then
      some (aL D2 (some d') (.one (.s .own (F.app d rows.length rows2.length e) z (rows++rows2))))
     else none
    else none
   | none=>none
  | none=>none
 | _,_,_,_=>none
end
theorem CK {t:DT} (h:t.flat=true):bl t=[]:=by
 cases t with
 | v x=>rfl
 | any=>rfl
 | s k d z r=>cases h
theorem zN {w:World} {t:DT} (h:t.flat=true):OwnT w t∧Holds w t:=by
 cases t with
 | v x=>exact ⟨.v x,.v x⟩
 | any=>exact ⟨.any,.any⟩
 | s k d z r=>cases h
theorem C8 {cx:Cx} {D D2:DSt} {P0:List (DT×Value)} {a:Act} {w:World} (I:Inv cx D P0 a.tmps w) {fl:Bool} {x:Operand} {z2:Nat} {rows2:List (List DT)} (e:qy mkD D fl x=some (z2,rows2,D2)) :
  ∃ k2 d2 P2,Inv cx D2 (P2++P0) a.tmps w∧VT (.s k2 d2 z2 rows2) (a.eval x)∧Holds w (.s k2 d2 z2 rows2)∧(∀ (i:Nat) (row:List DT) (j:Nat) (u:DT),rows2[i]?=some row→row[j]?=some u→OwnT w u) ∧
   ∀ b,(rows2.flatMap (fun x=>x.flatMap bl)).count b≤aE P2 b:=by
 unfold qy at e
 split at e
 ·split at e
  case h_2=>cases e
  rename_i k2 d2 z2' rows2' hx
  split at e
  case isFalse=>cases e
  rename_i hflat
  cases e
  obtain ⟨ys2,G2,hv2⟩:=I.cellsCopy hx
  simp only [bI,Bool.false_eq_true,if_false] at hv2
  subst hv2
  refine ⟨k2,d2,[],I,G2.v.2 0 _ _ rfl rfl,G2.holds _ (List.mem_singleton_self _),fun i row j u h1 h2=>(zN (List.all_eq_true.1 (List.all_eq_true.1 hflat row (List.mem_of_getElem? h1)) u (List.mem_of_getElem? h2))).1,fun b => ?_⟩
  have:rows2.flatMap (fun x=>x.flatMap bl)=[]:=by
   rw [List.flatMap_eq_nil_iff]
   intro row hr
   rw [List.flatMap_eq_nil_iff]
   intro u hu
   exact CK (List.all_eq_true.1 (List.all_eq_true.1 hflat row hr) u hu)
  rw [this];simp
 ·split at e
  case h_2=>cases e
  rename_i d2 z2' rows2' D2' hx
  cases e
  obtain ⟨ys2,P2,I2,G2,hv2⟩:=I.cellsTakeP hx
  simp only [bI,Bool.false_eq_true,if_false] at hv2
  subst hv2
  have hO:=G2.own _ (List.mem_singleton_self _) rfl
  refine ⟨.own,d2,P2,I2,G2.v.2 0 _ _ rfl rfl,G2.holds _ (List.mem_singleton_self _),fun i row j u h1 h2 => ?_,fun b => ?_⟩
  ·cases hO with
   | nil=>simp at h1
   | s _ _ _ _ _ _ _ _ _ _ _ _ _ hho=>exact hho i row j u h1 h2
  ·have:=G2.cnt b
   simp only [List.flatMap_cons,List.flatMap_nil,List.append_nil,ownR,T.isOwn,if_true,bW,List.count_append] at this
   omega
theorem zi {P:Program} {tab:Tab} (ok:a8 P tab) {cx:Cx} {D D':DSt} {a:Act} {w:World} (I:Inv cx D [] a.tmps w) {dst:Option Nat} {t t2 ty:Nat} {s x:Operand}
  (e:jd mkD (frD w) tab D dst t t2 s x=some D'):∃ y w',(Builtin.append_ #[t,t2] ty #[a.eval s,a.eval x]).run P w = .ok y w'∧Inv cx D' [] (a.put dst y).tmps w':=by
 unfold jd at e
 split at e
 case h_2=>cases e
 rename_i _ _ _ el _ _ _ el2 d' d z rows D1 hti hti2 hs
 split at e
 case h_2=>cases e
 rename_i te hte
 split at e
 case h_2=>cases e
 rename_i z2 rows2 D2 hx
 split at e
 case isFalse=>cases e
 rename_i hc
 split at e
 case isFalse=>cases e
 rename_i hn
 cases e
 obtain ⟨hd,rfl,hz0,hzl,rfl⟩:=hc
 obtain ⟨hbytes,h63⟩:=hn
 obtain ⟨ys,Pd0,I0,G,hv⟩:=I.cellsTake hs
 obtain ⟨k2,d2,P2,I1,hy2,hH2,hown2,hcnt2⟩:=C8 I0 hx
 have hu:=ef (Tab.ok ok hti) rfl
 have hu2:=ef (Tab.ok ok hti2) rfl
 obtain ⟨i,dd,zv,g1,g2',g3',g4,g5,g2,g7,g3⟩:=ey (Tab.ok ok hte)
 have hzs:zv.cells.size=te.size:=by rw [← hzl,g2];simp [cR]
 simp only [bI,Bool.false_eq_true,if_false] at hv
 subst hv
 have hy:VT (.s .own d te.size rows) (a.eval s):=G.v.2 0 _ _ rfl rfl
 have hH:=G.holds _ (List.mem_singleton_self _)
 have hO:=G.own _ (List.mem_singleton_self _) rfl
 have hcnt0:∀ b,(bl (.s .own d te.size rows:DT)).count b≤aE Pd0 b:=fun b=>by
  have:=G.cnt b
  simpa [ownR,T.isOwn] using this
 generalize hPd:P2++Pd0=Pd at I1
 have hcnt:∀ b,(bl (.s .own d te.size rows:DT)).count b+(rows2.flatMap (fun x=>x.flatMap bl)).count b≤aE Pd b:=fun b=>by
  have h1:=hcnt0 b
  have h2:=hcnt2 b
  rw [← hPd,fq,Nat.add_comm (aE P2 b)]
  exact Nat.add_le_add h1 h2
 obtain ⟨olds,R1,o1,c1⟩:=hH.cells (by omega)
 obtain ⟨news,R2,o2,c2⟩:=hH2.cells (by omega)
 have hhold2:∀ (i:Nat) (row:List DT) (j:Nat) (u:DT),rows2[i]?=some row→row[j]?=some u→Holds w u:=fun i row j u h1 h2=>by
  cases hH2 with
  | e=>simp at h1
  | s _ _ _ _ _ _ c' e' f' hb' _ _ hv' hh'=>exact hh' i row j u h1 h2
 have hexs:a.eval s = .slice d.addr rows.length d.cap:=hy
 have hexx:a.eval x = .slice d2.addr rows2.length d2.cap:=hy2
 have hnl:news.length=rows2.length*i.size:=by rw [g4];exact R2.len
 have src:∀ w0:World,(∀ a,w0.cell? a=w.cell? a)→Src P i.size t2 (a.eval x) rows2.length news w0:=by
  intro w0 hw0
  rw [hexx]
  rcases c2 with ⟨rfl,rfl⟩ | ⟨q1,q2,q3⟩
  ·cases hda:d2.addr with
   | none=>exact Src.ofNil w0 hu2 d2.cap
   | some ad=>exact Src.ofSlice w0 hu2 ad 0 d2.cap [] (by simp) (fun j u h=>by simp at h) (fun u h=>by cases h)
  ·have hda:d2.addr=some ⟨d2.b,d2.o,none⟩:=by rw [Dec.addr_none q2,q1];rfl
   rw [hda]
   exact Src.ofSlice w0 hu2 _ _ _ news hnl (fun j u h=>by rw [hw0,Addr.add_lit];exact q3 j u h) o2
 have hS:=src w (fun _=>rfl)
 by_cases hroom:rows.length+rows2.length≤d.cap
 ·
  have happ:(frD w).app d rows.length rows2.length el=d:=by simp only [frD];rw [if_pos hroom]
  rw [happ]
  cases hO with
  | nil _ _ hnil hsp hcap =>
   rw [hcap] at hroom
   have h2:rows2=[]:=List.length_eq_zero_iff.1 (by have h:=hroom;rw [List.length_nil] at h;omega)
   subst h2
   have hnews:news=[]:=List.length_eq_zero_iff.1 (by rw [R2.len];simp)
   subst hnews
   have hda:d.addr=none:=by rw [Dec.addr_none hsp,hnil];rfl
   refine ⟨a.eval s,w,?_,?_⟩
   ·rw [hexs,hda,hcap]
    have hk:=hS.kind
    have hc0:(Builtin.firstCells i.size 0 (a.eval x)).run P w = .ok #[] w:=by simpa using hS.cells
    rcases hk with ⟨e',hk⟩ | hk <;>
     simp [Builtin.append_,run_underlying hu,run_underlying hk,sizeOf,typeInfo,g1,hS.len,hc0]
   ·have hG:Got cx D2 w Pd [(.s .own d te.size []:DT)] [a.eval s]:=⟨G.v,G.holds,G.own,fun u hu=>by rw [List.mem_singleton] at hu;subst hu;trivial,fun b=>by
     have h1:=G.cnt b
     have h3:aE Pd b=aE P2 b+aE Pd0 b:=by rw [← hPd,fq]
     omega⟩
    exact I1.putGot (g:=false) (s := .one (.s .own d te.size ([]++[]))) hG (by simp [bI]) rfl (fun t' h=>by cases h;exact hd) rfl
  | s _ _ _ hnil hsp c ec lo hi hb hcap hroom' hfr hho =>
   have hda:d.addr=some ⟨d.b,d.o,none⟩:=by rw [Dec.addr_none hsp,hnil];rfl
   have hle:(rows.length+rows2.length)*te.size≤d.cap*te.size:=Nat.mul_le_mul_right _ hroom
   rw [Nat.add_mul] at hle
   have hnl':news.length=rows2.length*te.size:=R2.len
   have hfit:d.o+rows.length*te.size+news.length≤c.size:=by omega
   have hrun:=run_append_room_src (P:=P) w t t2 ty el i hu g1 d.b d.o rows.length d.cap (a.eval x) rows2.length news hS hroom
    (fun j hj=>by rw [nI hb,g4,Array.getElem?_eq_getElem (by omega)];rfl)
    (fun j hj=>by
     have hx:=hfr (d.o+rows.length*te.size+j) (by omega) (by omega)
     rw [g4]
     simp only [World.frozen?,hb]
     simp
     omega)
   rw [← hda, ← hexs,g4] at hrun
   obtain ⟨f1,f2,f3,f4,f5,f6⟩:=gS d.b ec (lo,hi) news (d.o+rows.length*te.size) w c hb hfit
   generalize hw':w.setCells d.b (d.o+rows.length*te.size) news=w' at hrun f1 f2 f3 f4 f5 f6
   have hdbn:d.b∈bl (.s .own d te.size rows:DT):=iM hnil
   have hB:0<aE Pd d.b:=Nat.lt_of_lt_of_le (List.count_pos_iff.2 hdbn) (by have:=hcnt d.b;omega)
   have hone:(bl (.s .own d te.size rows:DT)).count d.b+(rows2.flatMap (fun x=>x.flatMap bl)).count d.b≤1:=Nat.le_trans (hcnt d.b) (by have:=I1.once d.b;omega)
   have hbelow:∀ (i':Nat) (row':List DT) (j:Nat) (u:DT),rows[i']?=some row'→row'[j]?=some u→d.b∉bl u:=by
    intro i' row' j u h1 h2 hm
    have q1:=yV (k := .own) (d:=d) (z:=te.size) h1 h2 d.b
    rw [hnil] at q1
    simp only [Bool.false_eq_true,if_false] at q1
    have q3:0<(bl u).count d.b:=List.count_pos_iff.2 hm
    simp at q1;omega
   have hbelow2:∀ (i':Nat) (row':List DT) (j:Nat) (u:DT),rows2[i']?=some row'→row'[j]?=some u→d.b∉bl u:=by
    intro i' row' j u h1 h2 hm
    have q0:0<(bl (.s .own d te.size rows:DT)).count d.b:=List.count_pos_iff.2 hdbn
    have q1:0<(rows2.flatMap (fun x=>x.flatMap bl)).count d.b:=List.count_pos_iff.2 (List.mem_flatMap.2 ⟨row',List.mem_of_getElem? h1,List.mem_flatMap.2 ⟨u,List.mem_of_getElem? h2,hm⟩⟩)
    omega
   have gx:yU d.b w w':=⟨f4,f5,f6,by omega,fun b hb' _=>f2 b hb'⟩
   have hcl:d.o+rows.length*te.size+news.length≤c.toList.length:=by simpa using hfit
   have hzrow:∀ (i':Nat) (row:List DT),(rows++rows2)[i']?=some row→row.length=te.size:=fun i' row h=>(R1.append R2).row i' row h
   have hcase:∀ (i':Nat) (row:List DT) (j:Nat) (u:DT),(rows++rows2)[i']?=some row→row[j]?=some u →
     (rows[i']?=some row∧i'<rows.length)∨(rows2[i'-rows.length]?=some row∧rows.length≤i'):=by
    intro i' row j u h1 h2
    rcases Nat.lt_or_ge i' rows.length with q | q
    ·rw [List.getElem?_append_left q] at h1;exact .inl ⟨h1,q⟩
    ·rw [List.getElem?_append_right q] at h1;exact .inr ⟨h1,q⟩
   have hval:∀ (i':Nat) (row:List DT) (j:Nat) (u:DT),(rows++rows2)[i']?=some row→row[j]?=some u→∃ y,((ao c.toList (d.o+rows.length*te.size) news).toArray)[d.o+i'*te.size+j]?=some y∧VT u y:=by
    intro i' row j u h1 h2
    have hjz:j<te.size:=by
     have:=hzrow i' row h1
     rcases Nat.lt_or_ge j row.length with q | q
     ·omega
     ·rw [List.getElem?_eq_none q] at h2;cases h2
    simp only [List.getElem?_toArray]
    rcases hcase i' row j u h1 h2 with ⟨q1,q2⟩ | ⟨q1,q2⟩
    ·have hlt:=lh q2 hjz
     cases hH with
     | e=>simp at q2
     | s _ _ _ _ _ _ c' e' f' hb' _ _ hv' _ =>
      rw [hb] at hb';cases hb'
      obtain ⟨y,y1,y2⟩:=hv' i' row j u q1 h2
      refine ⟨y,?_,y2⟩
      rw [iy hcl (by omega)]
      simpa using y1
    ·obtain ⟨y,y1,y2⟩:=R2.val _ row j u q1 h2
     refine ⟨y,?_,y2⟩
     have e1:(i'-rows.length)*te.size=i'*te.size-rows.length*te.size:=Nat.sub_mul _ _ _
     have e2:rows.length*te.size≤i'*te.size:=Nat.mul_le_mul_right _ q2
     have hlt:i'*te.size-rows.length*te.size+j<news.length:=by
      rcases Nat.lt_or_ge ((i'-rows.length)*te.size+j) news.length with p | p
      ·omega
      ·rw [List.getElem?_eq_none p] at y1;cases y1
     rw [db hcl,if_neg (by omega),if_pos (by omega)]
     rw [show d.o+i'*te.size+j-(d.o+rows.length*te.size)=(i'-rows.length)*te.size+j by omega]
     exact y1
   have hframe:∀ u:DT,d.b∉bl u→∀ b∈bl u,b<w.heap.size→w'.heap[b]?=w.heap[b]?:=fun u hu b hb' _=>f2 b (fun e=>hu (e ▸ hb'))
   have hsub:∀ (i':Nat) (row:List DT) (j:Nat) (u:DT),(rows++rows2)[i']?=some row→row[j]?=some u→Holds w' u∧OwnT w' u:=by
    intro i' row j u h1 h2
    rcases hcase i' row j u h1 h2 with ⟨q1,q2⟩ | ⟨q1,q2⟩
    ·have hnb:=hbelow i' row j u q1 h2
     refine ⟨?_,(hho i' row j u q1 h2).frame (hframe u hnb)⟩
     cases hH with
     | e=>simp at q2
     | s _ _ _ _ _ _ c' e' f' hb' _ _ hv' hh'=>exact (hh' i' row j u q1 h2).frame (hframe u hnb)
    ·have hnb:=hbelow2 _ row j u q1 h2
     exact ⟨(hhold2 _ row j u q1 h2).frame (hframe u hnb),(hown2 _ row j u q1 h2).frame (hframe u hnb)⟩
   have hH':Holds w' (.s .own d te.size (rows++rows2)) := .s _ _ _ _ hnil hsp _ ec (lo,hi) f1 (by simpa using hroom) hzrow hval (fun i' row j u h1 h2=>(hsub i' row j u h1 h2).1)
   have hO':OwnT w' (.s .own d te.size (rows++rows2)) := .s _ _ _ hnil hsp _ ec lo hi f1 (by simpa using hroom) (by
     simp only [List.size_toArray]
     rw [ix hcl]
     simpa using hroom') hfr (fun i' row j u h1 h2=>(hsub i' row j u h1 h2).2)
   have hVT:VT (.s .own d te.size (rows++rows2)) (.slice d.addr (rows.length+rows2.length) d.cap):=by simp [VT]
   have hcnt':∀ b,(bl (.s .own d te.size (rows++rows2):DT)).count b≤aE Pd b:=fun b=>by
    have:=hcnt b
    rw [bW,List.count_append] at this ⊢
    rw [List.flatMap_append,List.count_append, ← Nat.add_assoc]
    exact this
   have I2:=I1.pendWrite (P:=Pd) hB gx hVT hH' hO' rfl hcnt'
   refine ⟨_,w',hrun,?_⟩
   refine I2.putGot (g:=false) (ts:=[.s .own d te.size (rows++rows2)]) (ys:=[.slice d.addr (rows.length+rows2.length) d.cap]) ⟨.one hVT,fun u hu => ?_,fun u hu _ => ?_,fun u hu => ?_,fun b => ?_⟩ (by simp [bI]) rfl (fun t' h=>by cases h;exact hd) rfl
   ·rw [List.mem_singleton] at hu;subst hu;exact hH'
   ·rw [List.mem_singleton] at hu;subst hu;exact hO'
   ·rw [List.mem_singleton] at hu;subst hu;trivial
   ·simp [aE]
 ·
  have happ:(frD w).app d rows.length rows2.length el=⟨w.heap.size,0,grownCap w (rows.length+rows2.length) d.cap el,false,none⟩:=by simp only [frD];rw [if_neg hroom]
  rw [happ]
  have hfit:=growslice_fits (need:=rows.length+rows2.length) (old:=d.cap) (bytes:=te.bytes) (by omega) hbytes
  have hold:(Builtin.firstCells i.size rows.length (.slice d.addr rows.length d.cap)).run P w.drew = .ok olds.toArray w.drew:=by
   rcases c1 with ⟨rfl,rfl⟩ | ⟨q1,q2,q3⟩
   ·cases hda:d.addr with
    | none=>exact run_firstCells_none w.drew _ _ _ _
    | some ad=>exact run_firstCells_some w.drew i.size 0 ad 0 d.cap [] (by simp) (fun j u h=>by simp at h)
   ·have hda:d.addr=some ⟨d.b,d.o,none⟩:=by rw [Dec.addr_none q2,q1];rfl
    rw [hda]
    exact run_firstCells_some w.drew i.size rows.length _ _ _ olds (by rw [g4];exact R1.len) (fun j u h=>by rw [Addr.add_lit];exact q3 j u h)
  have hrun:=run_append_grow_src (P:=P) w t t2 ty el i zv hu g1 g3' d.addr rows.length d.cap olds hold (a.eval x) rows2.length news hS (by omega) (by omega) (by rw [g5];exact hfit)
  rw [← hexs] at hrun
  have hge:=grownCap_ge w (rows.length+rows2.length) d.cap el
  generalize hgc:grownCap w (rows.length+rows2.length) d.cap el=gc at hrun hge
  have R:=R1.append R2
  generalize hcs:(olds++news).toArray++Builtin.zeroCells zv.cells (gc-(rows.length+rows2.length))=cells at hrun
  have hsize:cells.size=gc*te.size:=by
   rw [← hcs,Array.size_append,size_zeroCells,hzs,List.size_toArray,R.len, ← Nat.add_mul]
   congr 1
   simp
   omega
  have g:=(Grew.drew w).trans (Grew.alloc w.drew (.cells cells el))
  have hnew:(w.drew.alloc (.cells cells el)).heap[w.heap.size]?=some (.cells cells el (0,0)):=by
   show (w.heap.push _)[w.heap.size]?=_
   simp
  have hcell:∀ (j:Nat) (u:Value),(olds++news)[j]?=some u→cells[j]?=some u:=by
   intro j u h
   have hlt:j<(olds++news).length:=by
    rcases Nat.lt_or_ge j (olds++news).length with q | q
    ·exact q
    ·rw [List.getElem?_eq_none q] at h;cases h
   rw [← hcs,Array.getElem?_append_left (by simpa using hlt)]
   simpa using h
  have hsub:∀ (i':Nat) (row:List DT) (j:Nat) (u:DT),(rows++rows2)[i']?=some row→row[j]?=some u→Holds (w.drew.alloc (.cells cells el)) u∧OwnT (w.drew.alloc (.cells cells el)) u:=by
   intro i' row j u h1 h2
   rcases Nat.lt_or_ge i' rows.length with q | q
   ·rw [List.getElem?_append_left q] at h1
    refine ⟨?_,?_⟩
    ·cases hH with
     | e=>simp at q
     | s _ _ _ _ _ _ c' e' f' hb' _ _ hv' hh'=>exact (hh' i' row j u h1 h2).frame fun b _ hb=>g.same b hb
    ·cases hO with
     | nil=>simp at q
     | s _ _ _ _ _ _ _ _ _ _ _ _ _ hho=>exact (hho i' row j u h1 h2).frame fun b _ hb=>g.same b hb
   ·rw [List.getElem?_append_right q] at h1
    exact ⟨(hhold2 _ row j u h1 h2).frame fun b _ hb=>g.same b hb,(hown2 _ row j u h1 h2).frame fun b _ hb=>g.same b hb⟩
  have hH':Holds (w.drew.alloc (.cells cells el)) (.s .own ⟨w.heap.size,0,gc,false,none⟩ te.size (rows++rows2)):=by
   refine .s _ _ _ _ rfl rfl _ el (0,0) hnew (by simpa using hge) R.row (fun i' row j u h1 h2 => ?_) (fun i' row j u h1 h2=>(hsub i' row j u h1 h2).1)
   obtain ⟨y,y1,y2⟩:=R.val i' row j u h1 h2
   exact ⟨y,by simpa using hcell _ _ y1,y2⟩
  have hO':OwnT (w.drew.alloc (.cells cells el)) (.s .own ⟨w.heap.size,0,gc,false,none⟩ te.size (rows++rows2)) :=
   .s _ _ _ rfl rfl _ el 0 0 hnew (by simpa using hge) (by simp [hsize]) (fun x _ _ h=>by omega) (fun i' row j u h1 h2=>(hsub i' row j u h1 h2).2)
  refine ⟨_,_,hrun,I1.newRows (P:=Pd) g (by simp) (d:=⟨w.heap.size,0,gc,false,none⟩) ⟨rfl,rfl⟩ hH' hO' (fun b => ?_) hd (by simp [VT,Dec.addr])⟩
  rw [List.flatMap_append,List.count_append]
  have:=hcnt b
  rw [bW,List.count_append] at this
  exact Nat.le_trans (Nat.add_le_add_right (Nat.le_add_left _ _) _) this
end Go.Proofs.YtgaiiephdjllkaaGreatDoor.Am
namespace Go.Proofs.YtgaiiephdjllkaaGreatDoor.Am
set_option linter.unusedVariables false
set_option linter.unusedSimpArgs false
open Go
section
variable {δ β : Type}
def cU:List (List (T δ))→Option (List Int)
 | []=>some []
 | [.v (.int .u8 n)]::r=>(cU r).map fun l=>n::l
 | _::_=>none
def je (M:Mk δ β) (tab:Tab) (D:St δ β) (src dst:Nat) (x:Operand):Option (List (List (T δ))) :=
 match tab.ti src,tab.ti dst,cellsCopy M D x with
 | some ⟨_,_,_,.slice e⟩,some ⟨_,_,_,.str⟩,some (false,[.s _ _ 1 rows]) =>
  match tab.ti e with | some ⟨_,_,_,.int .u8⟩=>some rows | _=>none
 | _,_,_=>none
end
theorem ug:∀ {rows:List (List DT)} {xs:List Int},cU rows=some xs→rows=xs.map fun n=>[.v (.int .u8 n)]
 | [],xs,h=>by cases h;rfl
 | r::rs,xs,h=>by
  unfold cU at h
  split at h
  ·rename_i h0;cases h0
  ·rename_i n r' h0
   cases h0
   rw [Option.map_eq_some_iff] at h
   obtain ⟨l,h1,rfl⟩:=h
   rw [ug h1];rfl
  ·cases h
theorem wE {P:Program} {tab:Tab} (ok:a8 P tab) {cx:Cx} {D:DSt} {a:Act} {w:World} (I:Inv cx D [] a.tmps w) {src dst:Nat} {x:Operand} {rows:List (List DT)} {xs:List Int}
  (e:je mkD tab D src dst x=some rows) (hn:cU rows=some xs):(convert src dst (a.eval x)).run P w = .ok (.string (strOfNums xs)) w:=by
 unfold je at e
 split at e
 case h_2=>cases e
 rename_i _ _ _ el _ _ _ k d rows' hs hd hx
 split at e
 case h_2=>cases e
 rename_i he
 cases e
 obtain ⟨ys,G,hv⟩:=I.cellsCopy hx
 simp only [bI,Bool.false_eq_true,if_false] at hv
 subst hv
 have hu:=ef (Tab.ok ok hs) rfl
 have hdst:=qm (Tab.ok ok hd) rfl
 have hel:=wr (Tab.ok ok he) rfl
 have hy:VT (.s k d 1 rows) (a.eval x):=G.v.2 0 _ _ rfl rfl
 have hH:=G.holds _ (List.mem_singleton_self _)
 have hr:=ug hn
 obtain ⟨cs,R,o1,c1⟩:=hH.cells (by omega)
 have hlen:rows.length=xs.length:=by rw [hr];simp
 have hexx:a.eval x = .slice d.addr rows.length d.cap:=hy
 rw [hexx]
 rcases c1 with ⟨h0,h1⟩ | ⟨q1,q2,q3⟩
 ·have hx0:xs=[]:=List.length_eq_zero_iff.1 (by rw [← hlen,h0];rfl)
  subst hx0
  rw [h0]
  cases hda:d.addr with
  | none=>exact run_convert_bytes_nil w src el hu hel 0 d.cap dst hdst
  | some ad =>
   have hsp:(convert src dst (.slice (some ad) 0 d.cap)).run P w = .ok (.string (strOfNums [])) w:=by
    obtain ⟨b,o,sp⟩:=ad
    rw [run_convert_bytes_string w src dst el _ 0 d.cap hu hel hdst]
    rw [run_bytesToString w ⟨b,o,sp⟩ 0 d.cap [] (run_loadCells_list w ⟨b,o,sp⟩ [] (fun j v h=>by simp at h))]
    rfl
   exact hsp
 ·have hda:d.addr=some ⟨d.b,d.o,none⟩:=by rw [Dec.addr_none q2,q1];rfl
  rw [hda]
  refine run_convert_bytes_arg w src el hu hel d.b d.o rows.length d.cap xs hlen.symm (fun i hi => ?_) dst hdst
  have hrow:rows[i]?=some [.v (.int .u8 (xs.getD i 0))]:=by
   rw [hr,List.getElem?_map,List.getD_eq_getElem?_getD,List.getElem?_eq_getElem (by omega)]
   rfl
  obtain ⟨y,y1,y2⟩:=R.val i _ 0 _ hrow rfl
  rw [show y=_ from y2.1] at y1
  have:=q3 (i*1+0) _ y1
  rw [show d.o+(i*1+0)=d.o+i by omega] at this
  exact this
section
variable {δ β : Type}
def gf (s:ByteArray):List (List (T δ)):=s.data.toList.map fun b=>[.v (.int .u8 (b.toNat:Int))]
def eE (M:Mk δ β) (F:jw δ β) (tab:Tab) (D:St δ β) (dst:Option Nat) (src t:Nat) (x:Operand):Option (St δ β) :=
 match tab.ti src,tab.ti t,dst,opd M.nil D x with
 | some ⟨_,_,_,.str⟩,some ⟨_,_,_,.slice e⟩,some d,some (.one (.v (.string s))) =>
  match tab.ti e with
  | some ⟨1,_,_,.int .u8⟩=>if d<D.length then some (aL D (some d) (.one (.s .own (F.str s.size e) 1 (gf s)))) else none
  | _=>none
 | _,_,_,_=>none
end
theorem xq {P:Program} {tab:Tab} (ok:a8 P tab) {cx:Cx} {D D':DSt} {a:Act} {w:World} (I:Inv cx D [] a.tmps w) {dst:Option Nat} {src t:Nat} {x:Operand}
  (e:eE mkD (frD w) tab D dst src t x=some D'):∃ y w',(convert src t (a.eval x)).run P w = .ok y w'∧Inv cx D' [] (a.put dst y).tmps w':=by
 unfold eE at e
 split at e
 case h_2=>cases e
 rename_i _ _ _ _ _ _ el d s hs ht hx
 split at e
 case h_2=>cases e
 rename_i he
 split at e
 case isFalse=>cases e
 rename_i hd
 cases e
 have hu:=qm (Tab.ok ok hs) rfl
 have hu2:=ef (Tab.ok ok ht) rfl
 have hel:=wr (Tab.ok ok he) rfl
 have hev:a.eval x = .string s:=(I.opd hx).val.1
 have hrun:=run_bytes_of_string (P:=P) w src t el s hu hu2 hel
 rw [← hev] at hrun
 have hge:=grownCap_ge w s.size 0 el
 have hF:(frD w).str s.size el=⟨w.heap.size,0,grownCap w s.size 0 el,false,none⟩:=rfl
 rw [hF]
 generalize grownCap w s.size 0 el=gc at hrun hge
 have hsize:(bytesRow s gc).size=gc:=by
  unfold bytesRow
  have:s.data.size=s.size:=rfl
  simp [this]
  omega
 have hat:∀ j (hj:j<s.data.size),(bytesRow s gc)[j]?=some (.int .u8 (s.data[j].toNat:Int)):=fun j hj=>bytesRow_at s gc j hj
 generalize bytesRow s gc=cells at hrun hsize hat
 have g:=(Grew.drew w).trans (Grew.alloc w.drew (.cells cells el (cells.size,cells.size+1)))
 have hnew:(w.drew.alloc (.cells cells el (cells.size,cells.size+1))).heap[w.heap.size]?=some (.cells cells el (cells.size,cells.size+1)):=by
  show (w.heap.push _)[w.heap.size]?=_
  simp
 have hrow:∀ (i:Nat) (row:List DT),(gf s:List (List DT))[i]?=some row→∃ h:i<s.data.size,row=[.v (.int .u8 (s.data[i].toNat:Int))]:=by
  intro i row h
  unfold gf at h
  rw [List.getElem?_map,Option.map_eq_some_iff] at h
  obtain ⟨b,h1,rfl⟩:=h
  have hi:i<s.data.size:=by
   rcases Nat.lt_or_ge i s.data.toList.length with q | q
   ·simpa using q
   ·rw [List.getElem?_eq_none q] at h1;cases h1
  refine ⟨hi,?_⟩
  rw [List.getElem?_eq_getElem (by simpa using hi)] at h1
  cases h1
  simp
 have hlen:(gf s:List (List DT)).length=s.size:=by unfold gf;simp
 have hH:Holds (w.drew.alloc (.cells cells el (cells.size,cells.size+1))) (.s .own ⟨w.heap.size,0,gc,false,none⟩ 1 (gf s)):=by
  refine .s _ _ _ _ rfl rfl _ el _ hnew (by rw [hlen];exact hge) (fun i row h => ?_) (fun i row j u h1 h2 => ?_) (fun i row j u h1 h2 => ?_)
  ·obtain ⟨_,rfl⟩:=hrow i row h;rfl
  ·obtain ⟨hi,rfl⟩:=hrow i row h1
   cases j with
   | zero =>
    simp only [List.getElem?_cons_zero,Option.some.injEq] at h2
    subst h2
    exact ⟨_,by simpa using hat i hi,rfl,rfl⟩
   | succ j=>simp at h2
  ·obtain ⟨hi,rfl⟩:=hrow i row h1
   cases j with
   | zero=>simp only [List.getElem?_cons_zero,Option.some.injEq] at h2;subst h2;exact .v _
   | succ j=>simp at h2
 have hO:OwnT (w.drew.alloc (.cells cells el (cells.size,cells.size+1))) (.s .own ⟨w.heap.size,0,gc,false,none⟩ 1 (gf s)):=by
  refine .s _ _ _ rfl rfl _ el _ _ hnew (by rw [hlen];exact hge) (by simp [hsize]) (fun q h1 h2 h=>by simp at h2;omega) (fun i row j u h1 h2 => ?_)
  obtain ⟨hi,rfl⟩:=hrow i row h1
  cases j with
  | zero=>simp only [List.getElem?_cons_zero,Option.some.injEq] at h2;subst h2;exact .v _
  | succ j=>simp at h2
 refine ⟨_,_,hrun,I.newRows (P:=[]) g (by simp) (d:=⟨w.heap.size,0,gc,false,none⟩) ⟨rfl,rfl⟩ hH hO (fun b => ?_) hd (by simp [VT,Dec.addr,hlen])⟩
 have:(gf s:List (List DT)).flatMap (fun x=>x.flatMap Am.bl)=[]:=by
  rw [List.flatMap_eq_nil_iff]
  intro row hr
  obtain ⟨i,hi⟩:=List.getElem?_of_mem hr
  obtain ⟨_,rfl⟩:=hrow i row hi
  rfl
 rw [this];simp
end Go.Proofs.YtgaiiephdjllkaaGreatDoor.Am
namespace Go.Proofs.YtgaiiephdjllkaaGreatDoor.Am
set_option linter.unusedVariables false
set_option linter.unusedSimpArgs false
open Go
section
variable {δ β : Type}
def jX (D:St δ β) (x:Operand) (dst:Option Nat):Option (St δ β) :=
 match x,dst with
 | .tmp t,some d =>
  match D[t]? with
  | some (.tup rs)=>if d<D.length∧(rs.all fun r=>r.2.all T.noLent)=true then some (aL (D.set t .any) (some d) (.tup rs)) else none
  | _=>none
 | _,_=>none
end
theorem xP:∀ (us:List DT),(∀ u∈us,∃ v,VT u v)→∃ vs:List Value,us.length=vs.length∧∀ p∈us.zip vs,p.1∈us∧VT p.1 p.2
 | [],_=>⟨[],rfl,fun p hp=>by cases hp⟩
 | u::us,h=>by
  obtain ⟨v,hv⟩:=h u (by simp)
  obtain ⟨vs,h1,h2⟩:=xP us fun u hu=>h u (by simp [hu])
  refine ⟨v::vs,by simp [h1],fun p hp => ?_⟩
  rw [List.zip_cons_cons] at hp
  rcases List.mem_cons.1 hp with rfl | hp
  ·exact ⟨by simp,hv⟩
  ·exact ⟨by simp [(h2 p hp).1],(h2 p hp).2⟩
theorem yT {cx:Cx} {D D':DSt} {a:Act} {w:World} (I:Inv cx D [] a.tmps w) {dst:Option Nat} {x:Operand} (e:jX D x dst=some D'):Inv cx D' [] (a.put dst (a.eval x)).tmps w:=by
 unfold jX at e
 split at e
 case h_2=>cases e
 rename_i t d
 split at e
 case h_2=>cases e
 rename_i rs hD
 split at e
 case isFalse=>cases e
 rename_i hc
 cases e
 obtain ⟨hd,hnl⟩:=hc
 have hmem:=List.mem_of_getElem? hD
 have hval:=I.val t _ hD
 obtain ⟨vs,hy,hlen,hpart⟩:=hval
 have hm:=I.mem _ hmem
 have hk:∀ u∈ai (.tup rs:DSl),bg cx D u:=I.kind _ hmem
 have hn:∀ u∈ai (.tup rs:DSl),u.noLent=true:=by
  intro u hu
  obtain ⟨r,hr,hu⟩:=List.mem_flatMap.1 hu
  exact List.all_eq_true.1 (List.all_eq_true.1 hnl r hr) u hu
 have hv:∀ u∈ai (.tup rs:DSl),∃ v,VT u v:=by
  intro u hu
  obtain ⟨r,hr,hu⟩:=List.mem_flatMap.1 hu
  obtain ⟨j,hj⟩:=List.getElem?_of_mem hr
  have hjl:j<rs.length:=by
   rcases Nat.lt_or_ge j rs.length with q | q
   ·exact q
   ·rw [List.getElem?_eq_none q] at hj;cases hj
  have hp:=hpart j r vs.toList[j] hj (List.getElem?_eq_getElem (by omega))
  unfold VPart at hp
  split at hp
  ·obtain ⟨cs,h1,h2,h3⟩:=hp
   obtain ⟨k,hk⟩:=List.getElem?_of_mem hu
   have hkl:k<r.2.length:=by
    rcases Nat.lt_or_ge k r.2.length with q | q
    ·exact q
    ·rw [List.getElem?_eq_none q] at hk;cases hk
   exact ⟨_,h3 k u _ hk (List.getElem?_eq_getElem (by omega))⟩
  ·obtain ⟨t',h1,h2⟩:=hp
   rw [h1,List.mem_singleton] at hu
   subst hu
   exact ⟨_,h2⟩
 obtain ⟨ws,hl,hz⟩:=xP _ hv
 have hcz:=kP _ ws hl
 have hb:∀ b,((ai (.tup rs:DSl)).flatMap ownR).count b=(ownBl (.tup rs:DSl)).count b:=by
  intro b
  show ((rs.flatMap (·.2)).flatMap ownR).count b=(rs.flatMap fun r=>r.2.flatMap ownR).count b
  rw [List.flatMap_assoc]
 have I1:=I.swap (Q:=(ai (.tup rs:DSl)).zip ws) (s := .any) hD (fun s' hs'=>by
   obtain ⟨u,hu⟩:=List.getElem?_of_mem hs'
   exact I.tup_refs hD (I.val u s' hu) (I.kind s' hs')) (fun h=>h) trivial
  ⟨fun u hu=>(by cases hu),fun u hu=>(by cases hu),trivial⟩ (fun u hu=>(by cases hu))
  (fun p hp=>by
   obtain ⟨h1,h2⟩:=hz p hp
   refine ⟨h2,hm.1 _ h1,hm.2.1 _ h1,fun ho x hx => ?_⟩
   have hk1:=hk _ h1
   have hn1:=hn _ h1
   generalize p.1=u at *
   cases u with
   | v x=>simp [bl] at hx
   | any=>simp [bl] at hx
   | s k d z r=>cases k<;>first | exact hk1 x hx | (cases hn1;done) | (cases ho;done))
  (fun b=>by
   rw [hcz b,hb b,bZ]
   show ([]:List Nat).count b+_≤_
   simp)
 exact Inv.put (P:=(ai (.tup rs:DSl)).zip ws) (Q:=[]) (by rw [List.append_nil];exact I1) (by simpa using hd) (s := .tup rs) ⟨vs,hy,hlen,hpart⟩ hm (fun u hu=>nK (hn u hu) (hk u hu)) (fun b=>by rw [hcz b,hb b];exact Nat.le_refl _)
end Go.Proofs.YtgaiiephdjllkaaGreatDoor.Am
namespace Go.Proofs.YtgaiiephdjllkaaGreatDoor.Am
set_option linter.unusedVariables false
set_option linter.unusedSimpArgs false
open Go
section
variable {δ β : Type}
def gA (M:Mk δ β) (F:jw δ β) (tab:Tab) (D:St δ β) (dst:Option Nat) (t len:Nat) (parts:List (Nat×Operand)):Option (St δ β) :=
 match tab.ti t,dst,parts with
 | some ⟨_,_,_,.slice e⟩,some d,[(0,x)] =>
  match tab.ti e,cellsTake M D x with
  | some te,some (_,us,D1) =>
   if len=1∧d<D1.length∧te.size≠0∧te.zero.length=te.size∧te.size≤2 ^ 24∧us.length=te.size∧us.all (fun u=>u.isOwn || u.flat)=true then
    some (aL D1 (some d) (.one (.s .own (F.row 1) te.size [us])))
   else none
  | _,_=>none
 | _,_,_=>none
def k6 (M:Mk δ β) (tab:Tab) (D:St δ β) (t:Nat) (p:Operand) (z:Nat):Option (St δ β) :=
 match tab.ti t with
 | some ti=>if ti.size=1 then (opd M.nil D p).bind fun p=>fK D p [.s .own M.nil z []] else none
 | none=>none
end
theorem Cg {w:World} {u:DT} (h:(u.isOwn || u.flat)=true) (ho:u.isOwn=true→OwnT w u):OwnT w u∧ownR u=bl u:=by
 cases hu:u.isOwn with
 | true=>exact ⟨ho hu,by simp [ownR,hu]⟩
 | false =>
  rw [hu,Bool.false_or] at h
  exact ⟨(zN h).1,by simp [ownR,hu,CK h]⟩
theorem tL {P:Program} {tab:Tab} (ok:a8 P tab) {cx:Cx} {D D':DSt} {a:Act} {w:World} (I:Inv cx D [] a.tmps w) {dst:Option Nat} {t len:Nat} {parts:Array (Nat×Operand)}
  (e:gA mkD (frD w) tab D dst t len parts.toList=some D'):∃ y w',(Instr.buildSlice t len (parts.map fun (i,x)=>(i,a.eval x))).run P w = .ok y w'∧Inv cx D' [] (a.put dst y).tmps w':=by
 unfold gA at e
 split at e
 case h_2=>cases e
 rename_i sz by_ ze el d x hti hparts
 split at e
 case h_2=>cases e
 rename_i te gg us D1 hte hx
 split at e
 case isFalse=>cases e
 rename_i hc
 cases e
 obtain ⟨rfl,hd,hz0,hzl,hmax,hlen,hall⟩:=hc
 obtain ⟨ys,Pd,I1,G,hv⟩:=I.cellsTake hx
 have hu:=ef (Tab.ok ok hti) rfl
 obtain ⟨z,g1,g2,g3⟩:=qn (Tab.ok ok hte) w
 have hs:=iS (Tab.ok ok hte) w
 have GZ:=ik (P:=P) (t:=el) (w:=w) (cx:=cx) (D:=D) (ys:=z.cells.toList) g3
 rw [← g2] at GZ
 have hzs:z.cells.size=te.size:=by rw [← hzl,g2];simp [cR]
 have R0:=RowsAre.init GZ.v (by omega) 1
 rw [hzs] at R0
 have hcells:=jf G hv
 obtain ⟨hle,R⟩:=R0.set (i:=0) (by simp) G.v hlen
 have e2:=G.v.1
 have hrows:(List.replicate 1 (te.zero.map (T.inj nilD))).set 0 us=[us]:=rfl
 rw [hrows] at R
 have f1:Instr.fill (fun i=>some (i*te.size,te.size)) ((Array.range (1*te.size)).map fun i=>z.cells[i % te.size]!) [(0,a.eval x)]=some (ao ((Array.range (1*te.size)).map fun i=>z.cells[i % te.size]!).toList (0*te.size) ys).toArray:=by
  simp only [Instr.fill,hcells]
  rw [if_neg (by simp;omega)]
  have h3:=eX ys.toArray (0*te.size) ((Array.range (1*te.size)).map fun i=>z.cells[i % te.size]!) (by simpa using hle)
  rw [h3]
 generalize hcs':ao ((Array.range (1*te.size)).map fun i=>z.cells[i % te.size]!).toList (0*te.size) ys=cs' at *
 have hrun:(Instr.buildSlice t 1 (parts.map fun (i,x)=>(i,a.eval x))).run P w = .ok (.slice (some ⟨w.heap.size,0,none⟩) 1 1) (w.alloc (.cells cs'.toArray el)):=by
  have hf2:Instr.fill (fun i=>some (i*te.size,te.size)) ((Array.range (1*te.size)).map fun i=>z.cells[i % te.size]!) (parts.toList.map fun p=>(p.1,a.eval p.2))=some cs'.toArray:=by
   rw [hparts];exact f1
  simp only [Instr.buildSlice,run_underlying hu,Sem.run_bind,Result.andThen_ok,hs]
  rw [if_neg (by omega)]
  simp [g1,hzs]
  have hf3:=hf2
  rw [Nat.one_mul] at hf3
  simp [hf3,hz0,gE]
 have g:=Grew.alloc w (.cells cs'.toArray el)
 have hnew:(w.alloc (.cells cs'.toArray el)).heap[w.heap.size]?=some (.cells cs'.toArray el (0,0)):=by
  show (w.heap.push _)[w.heap.size]?=_
  simp
 have hmem:∀ (i:Nat) (row:List DT) (j:Nat) (u:DT),[us][i]?=some row→row[j]?=some u→u∈us:=fun i row j u hi hj=>by
  have:row=us:=by
   have:=List.mem_of_getElem? hi
   simpa using this
  subst this
  exact List.mem_of_getElem? hj
 have hB:∀ u∈us,OwnT w u∧ownR u=bl u:=fun u hu=>Cg (List.all_eq_true.1 hall u hu) (G.own u hu)
 have hH:Holds (w.alloc (.cells cs'.toArray el)) (.s .own ((frD w).row 1) te.size [us]):=by
  refine .s _ _ _ _ rfl rfl _ el (0,0) hnew (by simp [frD]) R.row (fun i row j t hi hj => ?_) (fun i row j t hi hj=>(G.holds t (hmem i row j t hi hj)).frame fun b _ hb=>g.same b hb)
  obtain ⟨y,y1,y2⟩:=R.val i row j t hi hj
  exact ⟨y,by simpa [frD] using y1,y2⟩
 have hO:OwnT (w.alloc (.cells cs'.toArray el)) (.s .own ((frD w).row 1) te.size [us]):=by
  refine .s _ _ _ rfl rfl _ el 0 0 hnew (by simp [frD]) (by simp [frD,R.len]) (fun x _ _ h=>by omega) (fun i row j t hi hj => ?_)
  exact ((hB t (hmem i row j t hi hj)).1).frame fun b _ hb=>g.same b hb
 refine ⟨_,_,hrun,I1.newRows (P:=Pd) g (by simp) (d:=(frD w).row 1) ⟨rfl,rfl⟩ hH hO (fun b => ?_) hd (by simp [VT,Dec.addr,frD])⟩
 have h1:=G.cnt b
 have h2:us.flatMap ownR=us.flatMap bl:=by rw [List.flatMap_def,List.flatMap_def,List.map_congr_left fun u hu=>(hB u hu).2]
 rw [h2] at h1
 simpa using h1
theorem xp {P:Program} {tab:Tab} (ok:a8 P tab) {cx:Cx} {D D':DSt} {a:Act} {w:World} (I:Inv cx D [] a.tmps w) {t:Nat} {p:Operand} {z:Nat}
  (e:k6 mkD tab D t p z=some D'):∃ w',(Instr.storeAt t (a.eval p) (.slice none 0 0)).run P w = .ok () w'∧Inv cx D' [] a.tmps w':=by
 unfold k6 at e
 split at e
 case h_2=>cases e
 rename_i ti hti
 split at e
 case isFalse=>cases e
 rename_i hsz
 rw [Option.bind_eq_some_iff] at e
 obtain ⟨ps,hp,e⟩:=e
 refine xZ (g:=false) ok I hti (ys:=[.slice none 0 0]) ⟨.one ?_,fun u hu => ?_,fun u hu _ => ?_,fun u hu => ?_,fun b => ?_⟩ (by simp [bI]) (by simp [hsz]) hp e
 ·simp [VT,Dec.addr,mkD,nilD]
 ·rw [List.mem_singleton] at hu;subst hu;exact .e _ _ _
 ·rw [List.mem_singleton] at hu;subst hu;exact .nil _ _ rfl rfl rfl
 ·rw [List.mem_singleton] at hu;subst hu;trivial
 ·simp [ownR,T.isOwn,bW,mkD,nilD]
end Go.Proofs.YtgaiiephdjllkaaGreatDoor.Am
namespace Go.Proofs.YtgaiiephdjllkaaGreatDoor.Am
set_option linter.unusedVariables false
set_option linter.unusedSimpArgs false
open Go
section
variable {δ β : Type}
def lq (M:Mk δ β) (tab:Tab) (D:St δ β) (dst:Option Nat) (t:Nat) (parts:List (Nat×Operand)):Option (St δ β) :=
 match tab.ti t,tab.pl t,parts,dst with
 | some ti,some pl,(i,x)::r,some d =>
  match pl[i]?,cellsTake M D x with
  | some (off,size),some (_,us,D1) =>
   if us.length=size∧off+us.length≤(ti.zero.map (T.inj M.nil)).length∧d<D1.length then
    (bO M D1 pl r (ao (ti.zero.map (T.inj M.nil)) off us)).map fun ts=>aL D1 (some d) (.agg ts)
   else none
  | _,_=>none
 | _,_,_,_=>none
end
theorem Got.spliceP {cx:Cx} {D:DSt} {w:World} {P Q:List (DT×Value)} {ts us:List DT} {xs ys:List Value} (G:Got cx D w P ts xs) (H:Got cx D w Q us ys) {off:Nat} (hl:off+us.length≤ts.length) :
  Got cx D w (P++Q) (ao ts off us) (ao xs off ys):=by
 refine ⟨G.v.splice H.v hl,fun t ht => ?_,fun t ht => ?_,fun t ht => ?_,fun b => ?_⟩
 ·rcases eC ht with h | h
  ·exact G.holds t h
  ·exact H.holds t h
 ·rcases eC ht with h | h
  ·exact G.own t h
  ·exact H.own t h
 ·rcases eC ht with h | h
  ·exact G.kind t h
  ·exact H.kind t h
 ·have h1:=lr ownR ts us off b
  have h2:=G.cnt b
  have h3:=H.cnt b
  rw [fq]
  omega
theorem gH {cx:Cx} {D:DSt} {P0 P:List (DT×Value)} {a:Act} {w:World} (I:Inv cx D P0 a.tmps w) (pl:List (Nat×Nat)):∀ (parts:List (Nat×Operand)) {ts ts':List DT} {xs:List Value},Got cx D w P ts xs →
  bO mkD D pl parts ts=some ts'→∃ ys,Instr.fill (pl.toArray[·]?) xs.toArray (parts.map fun p=>(p.1,a.eval p.2))=some ys.toArray∧Got cx D w P ts' ys
 | [],ts,ts',xs,G,e=>by cases e;exact ⟨xs,rfl,G⟩
 | (i,x)::r,ts,ts',xs,G,e=>by
  simp only [bO] at e
  split at e
  case h_2=>cases e
  rename_i off size g us hp hc
  split at e
  case isFalse=>cases e
  rename_i hl
  obtain ⟨ys,H,hv⟩:=I.cellsCopy hc
  have hcells:=jf H hv
  have G2:=G.spliceP H hl.2
  rw [List.append_nil] at G2
  obtain ⟨zs,h1,h2⟩:=gH I pl r G2 e
  refine ⟨zs,?_,h2⟩
  have e1:=G.v.1
  have e2:=H.v.1
  have hp':pl.toArray[i]?=some (off,size):=by simpa using hp
  simp only [List.map_cons,Instr.fill,hp',hcells]
  rw [if_neg (by simp;omega)]
  rw [eX ys.toArray off xs.toArray (by simp;omega)]
  simpa using h1
theorem zn {P:Program} {tab:Tab} (ok:a8 P tab) {cx:Cx} {D D':DSt} {a:Act} {w:World} (I:Inv cx D [] a.tmps w) {dst:Option Nat} {t:Nat} {parts:Array (Nat×Operand)} (e:lq mkD tab D dst t parts.toList=some D') :
  ∃ y,(Instr.build t (parts.map fun (i,x)=>(i,a.eval x))).run P w = .ok y w∧Inv cx D' [] (a.put dst y).tmps w:=by
 unfold lq at e
 split at e
 case h_2=>cases e
 rename_i ti pl i x r d hti hpl hparts
 split at e
 case h_2=>cases e
 rename_i off size gg us D1 hp hx
 split at e
 case isFalse=>cases e
 rename_i hc
 rw [Option.map_eq_some_iff] at e
 obtain ⟨ts,h1,rfl⟩:=e
 obtain ⟨hsz,hle,hd⟩:=hc
 obtain ⟨ys,Pd,I1,H,hv⟩:=I.cellsTake hx
 obtain ⟨i',dd,z,g1,g2,g3,g4,g5,g6,g7,g8⟩:=ey (Tab.ok ok hti)
 have G:=ik (P:=P) (t:=t) (w:=w) (cx:=cx) (D:=D1) (ys:=z.cells.toList) g8
 rw [← g6] at G
 have G2:=G.spliceP H hle
 rw [List.nil_append] at G2
 obtain ⟨zs,h2,H2⟩:=gH I1 pl r G2 h1
 have hcells:=jf H hv
 have hfill:Instr.fill (pl.toArray[·]?) z.cells.toList.toArray (parts.toList.map fun p=>(p.1,a.eval p.2))=some zs.toArray:=by
  rw [hparts]
  have e3:z.cells.toList.length=z.cells.size:=by simp
  have e1:(ti.zero.map (T.inj mkD.nil)).length=z.cells.size:=by rw [← e3];exact G.v.1
  have e2:=H.v.1
  rw [e1] at hle
  have hp':pl.toArray[i]?=some (off,size):=by simpa using hp
  simp only [List.map_cons,Instr.fill,hp',hcells]
  rw [if_neg (by simp;omega)]
  rw [eX ys.toArray off z.cells.toList.toArray (by simp;omega)]
  simpa using h2
 refine ⟨.agg zs.toArray,run_build w t _ _ ?_,?_⟩
 ·have hpp:=Tab.okPl ok hpl
  unfold mj at hpp
  split at hpp
  ·rename_i fs hu
   unfold Program.built
   rw [g1,hu]
   simp only [g3,hpp]
   simpa using hfill
  ·cases hpp
 ·exact I1.putGot (g:=true) (s := .agg ts) H2 (by simp [bI]) rfl (fun t' h=>by cases h;exact hd) rfl
section
variable {δ β : Type}
def mi (D:St δ β):Operand→Bool
 | .tmp t=>match D[t]? with | some s=>s.isHome | none=>false
 | _=>false
def nH (M:Mk δ β) (tab:Tab) (D:St δ β) (dst:Option Nat) (t:Nat) (parts:List (Nat×Operand)):Option (St δ β) :=
 match tab.ti t,tab.pl t,parts.dropWhile (fun p => !mi D p.2),dst with
 | some ti,some pl,(i,x)::r,some d =>
  match pl[i]?,cellsTake M D x,bO M D pl (parts.takeWhile (fun p => !mi D p.2)) (ti.zero.map (T.inj M.nil)) with
  | some (off,size),some (_,us,D1),some ts0 =>
   if us.length=size∧off+us.length≤ts0.length∧d<D1.length∧ts0.all T.noLent=true then
    (bO M D1 pl r (ao ts0 off us)).map fun ts=>aL D1 (some d) (.agg ts)
   else none
  | _,_,_=>none
 | _,_,_,_=>none
def k8 (M:Mk δ β) (tab:Tab) (D:St δ β) (dst:Option Nat) (t:Nat) (parts:List (Nat×Operand)):Option (St δ β) :=
 match lq M tab D dst t parts with
 | some r=>some r
 | none=>nH M tab D dst t parts
theorem zm {M:Mk δ β} {tab:Tab} {D r:St δ β} {dst:Option Nat} {t:Nat} {parts:List (Nat×Operand)} (h:lq M tab D dst t parts=some r):k8 M tab D dst t parts=some r:=by
 unfold k8
 rw [h]
end
theorem t8 {pl:Nat→Option (Nat×Nat)}:∀ (ps qs:List (Nat×Value)) (xs ys:Array Value),Instr.fill pl xs ps=some ys→Instr.fill pl xs (ps++qs)=Instr.fill pl ys qs
 | [],qs,xs,ys,h=>by simp only [Instr.fill] at h;cases h;rfl
 | (i,v)::ps,qs,xs,ys,h=>by
  rw [List.cons_append]
  unfold Instr.fill at h
  conv=>lhs;unfold Instr.fill
  cases hp:pl i with
  | none=>rw [hp] at h;cases h
  | some os =>
   obtain ⟨off,size⟩:=os
   rw [hp] at h
   simp only at h ⊢
   split at h
   ·cases h
   ·rename_i hc
    rw [if_neg hc]
    exact t8 ps qs _ ys h
theorem yc {P:Program} {tab:Tab} (ok:a8 P tab) {cx:Cx} {D D':DSt} {a:Act} {w:World} (I:Inv cx D [] a.tmps w) {dst:Option Nat} {t:Nat} {parts:Array (Nat×Operand)} (e:nH mkD tab D dst t parts.toList=some D') :
  ∃ y,(Instr.build t (parts.map fun (i,x)=>(i,a.eval x))).run P w = .ok y w∧Inv cx D' [] (a.put dst y).tmps w:=by
 unfold nH at e
 split at e
 case h_2=>cases e
 rename_i ti pl i x r d hti hpl hparts
 split at e
 case h_2=>cases e
 rename_i off size gg us D1 ts0 hp hx hpre
 split at e
 case isFalse=>cases e
 rename_i hc
 rw [Option.map_eq_some_iff] at e
 obtain ⟨ts,h1,rfl⟩:=e
 obtain ⟨hsz,hle,hd,hnl⟩:=hc
 obtain ⟨ys,Pd,I1,H,hv⟩:=I.cellsTake hx
 obtain ⟨i',dd,z,g1,g2,g3,g4,g5,g6,g7,g8⟩:=ey (Tab.ok ok hti)
 have G:=ik (P:=P) (t:=t) (w:=w) (cx:=cx) (D:=D) (ys:=z.cells.toList) g8
 rw [← g6] at G
 obtain ⟨ys0,hf0,G0⟩:=gH I pl _ G hpre
 have G1:Got cx D1 w [] ts0 ys0:=⟨G0.v,G0.holds,G0.own,fun t ht=>nK (List.all_eq_true.1 hnl t ht) (G0.kind t ht),G0.cnt⟩
 have G2:=G1.spliceP H hle
 rw [List.nil_append] at G2
 obtain ⟨zs,h2,H2⟩:=gH I1 pl r G2 h1
 have hcells:=jf H hv
 have hcut:parts.toList=parts.toList.takeWhile (fun p => !mi D p.2)++(i,x)::r:=by
  rw [← hparts];exact (List.takeWhile_append_dropWhile).symm
 have hfill:Instr.fill (pl.toArray[·]?) z.cells.toList.toArray (parts.toList.map fun p=>(p.1,a.eval p.2))=some zs.toArray:=by
  rw [hcut,List.map_append,t8 _ _ _ _ hf0]
  have e1:=G0.v.1
  have e2:=H.v.1
  rw [e1] at hle
  have hp':pl.toArray[i]?=some (off,size):=by simpa using hp
  simp only [List.map_cons,Instr.fill,hp',hcells]
  rw [if_neg (by simp;omega)]
  rw [eX ys.toArray off ys0.toArray (by simp;omega)]
  simpa using h2
 refine ⟨.agg zs.toArray,run_build w t _ _ ?_,?_⟩
 ·have hpp:=Tab.okPl ok hpl
  unfold mj at hpp
  split at hpp
  ·rename_i fs hu
   unfold Program.built
   rw [g1,hu]
   simp only [g3,hpp]
   simpa using hfill
  ·cases hpp
 ·exact I1.putGot (g:=true) (s := .agg ts) H2 (by simp [bI]) rfl (fun t' h=>by cases h;exact hd) rfl
theorem yd {P:Program} {tab:Tab} (ok:a8 P tab) {cx:Cx} {D D':DSt} {a:Act} {w:World} (I:Inv cx D [] a.tmps w) {dst:Option Nat} {t:Nat} {parts:Array (Nat×Operand)} (e:k8 mkD tab D dst t parts.toList=some D') :
  ∃ y,(Instr.build t (parts.map fun (i,x)=>(i,a.eval x))).run P w = .ok y w∧Inv cx D' [] (a.put dst y).tmps w:=by
 unfold k8 at e
 split at e
 ·rename_i r h;cases e;exact zn ok I h
 ·exact yc ok I e
end Go.Proofs.YtgaiiephdjllkaaGreatDoor.Am
namespace Go.Proofs.YtgaiiephdjllkaaGreatDoor.Am
set_option linter.unusedVariables false
set_option linter.unusedSimpArgs false
open Go
section
variable {δ β : Type}
def putA (D:St δ β) (t:Nat) (x:Sl δ β):St δ β :=
 match D[t]? with
 | some .any=>D.set t x
 | _=>aL D (some t) x
def dj (D:St δ β) (dst:Option Nat) (x:Sl δ β):Option (St δ β) :=
 match dst with
 | none=>some D
 | some t=>if t<D.length then some (putA D t x) else none
def ip (M:Mk δ β) (tab:Tab) (D:St δ β) (t:Nat) (x:Operand):Option (Bool×List (T δ)×St δ β) :=
 match tab.ti t,opd M.nil D x with
 | some ti,some (.pb h 0) =>
  match D[h]? with
  | some (.box _ ts)=>if ts.length=ti.size∧ti.sh ≠ .other∧ti.sh.agg=true∧ts.all T.noLent=true then some (true,ts,aM h D) else none
  | _=>none
 | _,_=>none
def oj (tab:Tab) (ty:Nat) (x:Operand):Option Nat :=
 match x with
 | .const (.slice none 0 0)=>match tab.ti ty with | some ⟨_,_,_,.slice e⟩=>(tab.ti e).map (·.size) | _=>none
 | _=>none
def gi (D:St δ β) (x:Operand):Option (List (Bool×List (T δ))) :=
 match x with
 | .tmp t=>match D[t]? with | some (.tup rs)=>if (rs.all fun r=>r.2.all T.flat)=true∧rs≠[] then some rs else none | _=>none
 | _=>none
def pH (c:Call):Option (Nat×Nat×Operand×Operand) :=
 match c.callee,c.args.toList,c.argTypes.toList with
 | .builtin .append,[s,x],[t,t2]=>some (t,t2,s,x)
 | _,_,_=>none
def cv (M:Mk δ β) (F:jw δ β) (tab:Tab) (D:St δ β) (o:Oper) (tk:Bool):Option (St δ β) :=
 match o.op with
 | .store t p x=>match o.dst with
  | none=>(match oj tab t x with | some z=>k6 M tab D t p z | none=>ms M tab D t p x tk)
  | some _=>none
 | .alloc t=>k7 M F tab D o.dst t
 | .box _ x=>tC M F D o.dst x tk
 | .move x=>match oj tab o.type x with
  | some z=>dj D o.dst (.one (.s .own M.nil z []))
  | none=>match gi D x with
  | some rs=>dj D o.dst (.tup rs)
  | none=>match (if tk then jX D x o.dst else none) with
  | some D'=>some D'
  | none=>if tk then (cellsTake M D x).bind fun r=>match o.dst with | some t=>if t<r.2.2.length then (fm r.1 r.2.1).map fun s=>aL r.2.2 (some t) s else none | none=>none
   else (bA M tab D o.op).bind fun s=>dj D o.dst s
 | .assign x=>match oj tab o.type x with
  | some z=>dj D o.dst (.one (.s .own M.nil z []))
  | none=>if tk then (cellsTake M D x).bind fun r=>match o.dst with | some t=>if t<r.2.2.length then (fm r.1 r.2.1).map fun s=>aL r.2.2 (some t) s else none | none=>none
   else (bA M tab D o.op).bind fun s=>dj D o.dst s
 | .load t x=>if tk then (ip M tab D t x).bind fun r=>match o.dst with | some t=>if t<r.2.2.length then (fm r.1 r.2.1).map fun s=>aL r.2.2 (some t) s else none | none=>none
   else (bA M tab D o.op).bind fun s=>dj D o.dst s
 | .extract x i=>ld D o.dst x i
 | .makeFunc fn first caps=>match fn with | .func f=>if first.toList=[] then (qz D f caps.toList).bind fun s=>dj D o.dst s else none | _=>none
 | .buildSlice t len parts=>if tk then gA M F tab D o.dst t len parts.toList else dw M F tab D o.dst t len parts.toList
 | .makeSlice t l c=>dy M F tab D o.dst t l c
 | .call c=>match pH c with
  | some (t,t2,s,x)=>jd M F tab D o.dst t t2 s x
  | none=>(bA M tab D o.op).bind fun s=>dj D o.dst s
 | .convert src dst x=>match je M tab D src dst x with
  | some rows=>(cU rows).bind fun xs=>dj D o.dst (.one (.v (.string (strOfNums xs))))
  | none=>match eE M F tab D o.dst src dst x with
  | some D'=>some D'
  | none=>(bA M tab D o.op).bind fun s=>dj D o.dst s
 | .build t parts=>if tk then k8 M tab D o.dst t parts.toList else (l5 M tab D t parts.toList).bind fun s=>dj D o.dst s
 | op=>(bA M tab D op).bind fun s=>dj D o.dst s
end
theorem Inv.any_refs {cx:Cx} {D:DSt} {P:List (DT×Value)} {tm:Array Value} {w:World} (I:Inv cx D P tm w) {t:Nat} (ha:D[t]?=some .any) {s:DSl} {y:Value} (hv:VS D s y) (hk:dm cx D s):¬ b9 t s:=by
 have hc:∀ c,am D t c=none:=fun c=>by simp [am,ha,aI]
 have hroot:∀ (us:List DT),(∀ u∈us,bg cx D u)→¬ ∃ u∈us,∃ c fl d z r,u = .s (.lent t c fl) d z r:=by
  rintro us h ⟨u,hu,c,fl,d,z,r,rfl⟩
  obtain ⟨t',h1,_⟩:=h _ hu
  rw [hc] at h1;cases h1
 intro hr
 cases s with
 | any=>exact hr
 | one u=>obtain ⟨c,fl,d,z,r,rfl⟩:=hr;exact hroot [_] (fun u hu=>hk u (by simpa [ai] using hu)) ⟨_,List.mem_singleton_self _,c,fl,d,z,r,rfl⟩
 | agg ts=>exact hroot ts hk hr
 | box b ts=>exact hroot ts hk hr
 | al h c st lo len =>
  simp only [b9] at hr;subst hr
  obtain ⟨d,z,n,a,⟨t',h1,_⟩,_⟩:=hv
  rw [hc] at h1;cases h1
 | pe h c st i off =>
  simp only [b9] at hr;subst hr
  obtain ⟨d,z,n,⟨t',h1,_⟩,_⟩:=hv
  rw [hc] at h1;cases h1
 | pb h off =>
  simp only [b9] at hr;subst hr
  obtain ⟨b,ts,h1,_⟩:=hv
  rw [ha] at h1;cases h1
 | im k b ts off =>
  cases k with
  | own=>exact hr
  | far=>exact hr
  | lent h c fl =>
   simp only [b9] at hr;subst hr
   obtain ⟨t',h1,_⟩:=hk
   rw [hc] at h1;cases h1
 | fni f caps=>exact hr
 | clo f hs =>
  obtain ⟨bs,h1,h2,_⟩:=hv
  obtain ⟨i,hi⟩:=List.getElem?_of_mem hr
  obtain ⟨b,hb⟩:∃ b,bs[i]?=some b:=by
   have:i<hs.length:=by
    rcases Nat.lt_or_ge i hs.length with g | g
    ·exact g
    ·rw [List.getElem?_eq_none g] at hi;cases hi
   exact ⟨_,List.getElem?_eq_getElem (by omega)⟩
  obtain ⟨ts,h3⟩:=h2 i t b hi hb
  rw [ha] at h3;cases h3
 | tup rs =>
  obtain ⟨p,hp,u,hu,c,fl,d,z,r,e⟩:=hr
  exact hroot (ai (.tup rs)) hk ⟨u,List.mem_flatMap.2 ⟨p,hp,hu⟩,c,fl,d,z,r,e⟩
theorem Inv.putA {cx:Cx} {D:DSt} {a:Act} {w:World} (I:Inv cx D [] a.tmps w) {t:Nat} {s:DSl} {y:Value} (ht:t<D.length) (h:Tells cx D w s y):Inv cx (putA D t s) [] (a.put (some t) y).tmps w:=by
 have hown:∀ b,(ownBl s).count b≤aE [] b:=by
  intro b
  have:ownBl s=[]:=h.noown
  rw [this];simp [aE]
 unfold Am.putA
 split
 ·rename_i ha
  exact Inv.fill (P:=[]) (Q:=[]) (by simpa using I) ha (fun s' hs'=>by
   obtain ⟨u,hu⟩:=List.getElem?_of_mem hs'
   exact I.any_refs ha (I.val u s' hu) (I.kind s' hs')) (I.any_refs ha h.val h.kind) h.val h.mem h.kind hown
 ·exact Inv.put (P:=[]) (Q:=[]) (by simpa using I) ht h.val h.mem h.kind hown
variable {P : Program} {tab : Tab}
inductive u6 (cx:Cx) (D':DSt) (a:Act) (o:Oper) (w':World):Next→Prop where
 | value (y:Value) (h:Inv cx D' [] (a.put o.dst y).tmps w'):u6 cx D' a o w' (.value y)
 | skip (hd:o.dst=none) (h:Inv cx D' [] a.tmps w'):u6 cx D' a o w' .skip
theorem jA (ok:a8 P tab) {cx:Cx} {D D':DSt} {a:Act} {w:World} (I:Inv cx D [] a.tmps w) {o:Oper} (e:((bA mkD tab D o.op).bind fun s=>dj D o.dst s)=some D') :
  ∃ nx w',(execOp a.eval o).run P w = .ok nx w'∧u6 cx D' a o w' nx:=by
 rw [Option.bind_eq_some_iff] at e
 obtain ⟨s,h1,h2⟩:=e
 obtain ⟨y,h3,h4⟩:=my ok I h1
 refine ⟨_,w,h3,.value y ?_⟩
 unfold dj at h2
 split at h2
 ·rename_i hd
  cases h2
  rw [hd];exact I
 ·rename_i t hd
  split at h2
  ·cases h2
   rw [hd];exact I.putA ‹_› h4
  ·cases h2
theorem ml {cx:Cx} {D D':DSt} {a:Act} {w:World} (I:Inv cx D [] a.tmps w) {o:Oper} {s:DSl} {y:Value} (h4:Tells cx D w s y) (h2:dj D o.dst s=some D'):u6 cx D' a o w (.value y):=by
 refine .value y ?_
 unfold dj at h2
 split at h2
 ·rename_i hd
  cases h2
  rw [hd];exact I
 ·rename_i t hd
  split at h2
  ·cases h2
   rw [hd];exact I.putA ‹_› h4
  ·cases h2
theorem x6 {cx:Cx} {D D':DSt} {a:Act} {w:World} (I:Inv cx D [] a.tmps w) {x:Operand} {dst:Option Nat}
  (e:((cellsTake mkD D x).bind fun r=>match dst with | some t=>if t<r.2.2.length then (fm r.1 r.2.1).map fun s=>aL r.2.2 (some t) s else none | none=>none)=some D') :
  Inv cx D' [] (a.put dst (a.eval x)).tmps w:=by
 rw [Option.bind_eq_some_iff] at e
 obtain ⟨⟨g,us,D1⟩,h1,h2⟩:=e
 obtain ⟨ys,Pd,I1,G,hv⟩:=I.cellsTake h1
 simp only at h2
 split at h2
 ·rename_i t
  split at h2
  ·rename_i ht
   rw [Option.map_eq_some_iff] at h2
   obtain ⟨s,hs,rfl⟩:=h2
   exact I1.putGot G hv hs (fun t' h=>by cases h;exact ht) rfl
  ·cases h2
 ·cases h2
theorem yy (ok:a8 P tab) {cx:Cx} {D D':DSt} {a:Act} {w:World} (I:Inv cx D [] a.tmps w) {o:Oper} {t:Nat} {x:Operand} (hop:o.op = .load t x)
  (e:((ip mkD tab D t x).bind fun r=>match o.dst with | some t=>if t<r.2.2.length then (fm r.1 r.2.1).map fun s=>aL r.2.2 (some t) s else none | none=>none)=some D') :
  ∃ y,(execOp a.eval o).run P w = .ok (.value y) w∧Inv cx D' [] (a.put o.dst y).tmps w:=by
 rw [Option.bind_eq_some_iff] at e
 obtain ⟨⟨g,us,D1⟩,h1,h2⟩:=e
 unfold ip at h1
 split at h1
 case h_2=>cases h1
 rename_i ti h hti hx
 split at h1
 case h_2=>cases h1
 rename_i b ts hh
 split at h1
 case isFalse=>cases h1
 rename_i hc
 cases h1
 obtain ⟨c1,c2,c3,hall⟩:=hc
 have he:bA mkD tab D o.op=some (.agg (us.mapIdx fun j u=>u.kd (.lent h (0+j) true))):=by
  rw [hop]
  have hx':opd mkD.nil D x=some (.pb h 0):=hx
  simp only [bA,hx',hti]
  rw [if_neg c2]
  simp only [gp,boxRange,hh]
  rw [if_pos (by omega),Option.bind_some,if_pos c3]
  have:(us.drop 0).take ti.size=us:=by rw [List.drop_zero, ← c1,List.take_length]
  rw [this]
 obtain ⟨y,k1,k2⟩:=my ok I he
 refine ⟨y,k1,?_⟩
 obtain ⟨cs,hy,hvc0⟩:=k2.val
 have hvc:VCells us cs.toList:=by
  refine ⟨by simpa using hvc0.1,fun i u v hi hv => ?_⟩
  have:=hvc0.2 i (u.kd (.lent h (0+i) true)) v (by rw [List.getElem?_mapIdx,hi];rfl) hv
  exact C6.1 this
 have hm:=I.mem _ (List.mem_of_getElem? hh)
 have hk:=I.kind _ (List.mem_of_getElem? hh)
 have hnl:∀ v∈us,∀ h c fl d z r,v ≠ .s (.lent h c fl) d z r:=by
  intro v hv h c fl d z r g
  have:=List.all_eq_true.1 hall v hv
  rw [g] at this;simp [T.noLent] at this
 have hT:=Inv.take I (cs:=us.zip cs.toList) hh (fun p hp=>by
   obtain ⟨i,hi⟩:=List.getElem?_of_mem hp
   rw [List.getElem?_zip_eq_some] at hi
   exact ⟨List.mem_of_getElem? hi.1,List.mem_of_getElem? hi.1,hvc.2 i _ _ hi.1 hi.2⟩)
  (fun p hp=>hnl p.1 (List.of_mem_zip hp).1) (fun c=>by
   rw [kP _ _ hvc.1]
   simp only [ownBl]
   rw [List.count_cons]
   omega) (by simp) (by simp)
 have G:Got cx (aM h D) w (us.zip cs.toList++[]) us cs.toList:=by
  refine ⟨hvc,hm.1,hm.2.1,fun v hv => ?_,fun c => ?_⟩
  ·have hk':=hk v hv
   have:=hnl v hv
   cases v with
   | v x=>trivial
   | any=>trivial
   | s k d z r =>
    cases k with
    | own=>trivial
    | far=>exact hk'
    | lent h c fl=>exact absurd rfl (this h c fl d z r)
  ·rw [List.append_nil,kP _ _ hvc.1];exact Nat.le_refl _
 simp only at h2
 split at h2
 ·rename_i t' hd
  split at h2
  ·rename_i ht
   rw [Option.map_eq_some_iff] at h2
   obtain ⟨s,hs,rfl⟩:=h2
   have:=Inv.putGot (dst:=some t') hT G (by simp only [bI,if_true];exact hy) hs (fun t'' h=>by cases h;exact ht) rfl
   rw [hd];exact this
  ·cases h2
 ·cases h2
theorem EA {cx:Cx} {D:DSt} {a:Act} {w:World} (I:Inv cx D [] a.tmps w) {f:FuncId} {caps:Array Operand} {s:DSl} (e:qz D f caps.toList=some s):Tells cx D w s (.func (.func f) #[] (caps.map a.eval)):=by
 unfold qz at e
 rw [Option.map_eq_some_iff] at e
 obtain ⟨hs,h1,rfl⟩:=e
 have key:∀ (xs:List Operand) {hs:List Nat},kO D xs=some hs →
   ∃ bs:List (Nat×Nat),bs.length=hs.length∧(∀ (i h:Nat) (b:Nat×Nat),hs[i]?=some h→bs[i]?=some b→∃ ts,D[h]?=some (.box b ts))∧xs.map a.eval=bs.map fun b=>Value.pointer (some ⟨b.1,b.2,none⟩):=by
  intro xs
  induction xs with
  | nil=>intro hs h;cases h;exact ⟨[],rfl,fun i h b hi=>by simp at hi,rfl⟩
  | cons x xs ih =>
   intro hs h
   simp only [kO,Option.bind_eq_some_iff,Option.map_eq_some_iff] at h
   obtain ⟨h0,hx,hs',hr,rfl⟩:=h
   obtain ⟨bs,b1,b2,b3⟩:=ih hr
   have hone:∃ (b:Nat×Nat) (ts:List DT),D[h0]?=some (.box b ts)∧a.eval x = .pointer (some ⟨b.1,b.2,none⟩):=by
    unfold iI at hx
    split at hx
    ·rename_i t
     split at hx
     ·rename_i b ts hb
      cases hx
      exact ⟨b,ts,hb,I.val _ _ hb⟩
     ·rename_i h' hb
      cases hx
      obtain ⟨b,ts,k1,k2⟩:=I.val _ _ hb
      exact ⟨b,ts,k1,k2⟩
     ·cases hx
    ·cases hx
   obtain ⟨b,ts,k1,k2⟩:=hone
   refine ⟨b::bs,by simp [b1],fun i h c hi hc => ?_,by simp [b3,k2]⟩
   cases i with
   | zero=>simp at hi hc;subst hi;subst hc;exact ⟨ts,k1⟩
   | succ i=>simp at hi hc;exact b2 i h c hi hc
 obtain ⟨bs,b1,b2,b3⟩:=key _ h1
 refine ⟨⟨bs,b1,b2,?_⟩,⟨fun u hu=>by simp [ai] at hu,fun u hu=>by simp [rootsO] at hu,trivial⟩,fun u hu=>by simp [ai] at hu,rfl⟩
 congr 1
 rw [← Array.toList_inj]
 simpa using b3
theorem zh {c:Call} {t t2:Nat} {s x:Operand} (h:pH c=some (t,t2,s,x)):c.callee = .builtin .append∧c.args = #[s,x]∧c.argTypes = #[t,t2]:=by
 unfold pH at h
 split at h
 ·rename_i h1 h2 h3
  cases h
  exact ⟨h1,by rw [← Array.toList_inj];exact h2,by rw [← Array.toList_inj];exact h3⟩
 ·cases h
theorem x7 {cx:Cx} {D:DSt} {a:Act} {w:World} (I:Inv cx D [] a.tmps w) {x:Operand} {rs:List (Bool×List DT)} (h:gi D x=some rs):Tells cx D w (.tup rs) (a.eval x):=by
 unfold gi at h
 split at h
 ·rename_i t
  split at h
  ·rename_i rs' hr
   split at h
   ·rename_i hf
    cases h
    have hm:=List.mem_of_getElem? hr
    refine ⟨I.val t _ hr,I.mem _ hm,I.kind _ hm,?_⟩
    simp only [ownBl,List.flatMap_eq_nil_iff]
    intro r hr' u hu
    have:=List.all_eq_true.1 (List.all_eq_true.1 hf.1 r hr') u hu
    cases u with
    | v x=>rfl
    | any=>rfl
    | s k d z q=>cases this
   ·cases h
  ·cases h
 ·cases h
theorem xN {cx:Cx} {D:DSt} {w:World} (z:Nat):Tells cx D w (.one (.s .own nilD z [])) (.slice none 0 0):=by
 refine ⟨rfl,⟨fun u hu => ?_,fun u hu _ => ?_,trivial⟩,fun u hu => ?_,?_⟩
 ·simp only [ai,List.mem_singleton] at hu;subst hu;exact .e _ _ _
 ·simp only [rootsO,List.mem_singleton] at hu;subst hu;exact .nil _ _ rfl rfl rfl
 ·simp only [ai,List.mem_singleton] at hu;subst hu;trivial
 ·simp [ownBl,ownR,T.isOwn,bW,nilD]
theorem wo (ok:a8 P tab) {cx:Cx} {D D':DSt} {a:Act} {w:World} (I:Inv cx D [] a.tmps w) {o:Oper} {tk:Bool} (e:cv mkD (frD w) tab D o tk=some D') :
  ∃ nx w',(execOp a.eval o).run P w = .ok nx w'∧u6 cx D' a o w' nx:=by
 unfold cv at e
 split at e
 ·rename_i t p x hop
  split at e
  ·rename_i hd
   split at e
   ·rename_i z hz
    have hx:a.eval x = .slice none 0 0:=by
     unfold oj at hz
     split at hz
     ·rfl
     ·cases hz
    obtain ⟨w',h1,h2⟩:=xp ok I e
    rw [← hx] at h1
    exact ⟨.skip,w',by simp [execOp,hop,h1],.skip hd h2⟩
   ·obtain ⟨w',h1,h2⟩:=Cu ok I e
    exact ⟨.skip,w',by simp [execOp,hop,h1],.skip hd h2⟩
  ·cases e
 ·rename_i t hop
  obtain ⟨y,w',h1,h2⟩:=tT ok I e
  exact ⟨.value y,w',by simp [execOp,hop,h1],.value y h2⟩
 ·rename_i t x hop
  obtain ⟨y,w',h1,h2⟩:=Ez (P:=P) (t:=t) I e
  exact ⟨.value y,w',by simp [execOp,hop,h1],.value y h2⟩
 ·rename_i x hop
  split at e
  ·rename_i z hz
   have hx:a.eval x = .slice none 0 0:=by
    unfold oj at hz
    split at hz
    ·rfl
    ·cases hz
   exact ⟨.value (a.eval x),w,by simp [execOp,hop],ml I (hx ▸ xN z) e⟩
  ·split at e
   ·rename_i rs hr
    exact ⟨.value (a.eval x),w,by simp [execOp,hop],ml I (x7 I hr) e⟩
   ·split at e
    ·rename_i D2 hs
     cases e
     split at hs
     ·exact ⟨.value (a.eval x),w,by simp [execOp,hop],.value _ (yT I hs)⟩
     ·cases hs
    split at e
    ·exact ⟨.value (a.eval x),w,by simp [execOp,hop],.value _ (x6 I e)⟩
    ·exact jA ok I e
 ·rename_i x hop
  split at e
  ·rename_i z hz
   have hx:a.eval x = .slice none 0 0:=by
    unfold oj at hz
    split at hz
    ·rfl
    ·cases hz
   exact ⟨.value (a.eval x),w,by simp [execOp,hop],ml I (hx ▸ xN z) e⟩
  ·split at e
   ·exact ⟨.value (a.eval x),w,by simp [execOp,hop],.value _ (x6 I e)⟩
   ·exact jA ok I e
 ·rename_i t x hop
  split at e
  ·obtain ⟨y,h1,h2⟩:=yy ok I hop e
   exact ⟨.value y,w,h1,.value _ h2⟩
  ·exact jA ok I e
 ·rename_i x i hop
  obtain ⟨y,h1,h2⟩:=yf (P:=P) I e
  exact ⟨.value y,w,by simp [execOp,hop,h1],.value y h2⟩
 ·rename_i fn first caps hop
  split at e
  case h_2=>cases e
  rename_i f
  split at e
  case isFalse=>cases e
  rename_i hfirst
  rw [Option.bind_eq_some_iff] at e
  obtain ⟨s,h1,h2⟩:=e
  have hf:first = #[]:=by rw [← Array.toList_inj];exact hfirst
  subst hf
  exact ⟨.value _,w,by simp [execOp,hop,Instr.makeFunc],ml I (EA I h1) h2⟩
 ·rename_i t len parts hop
  split at e
  ·obtain ⟨y,w',h1,h2⟩:=tL ok I e
   exact ⟨.value y,w',by simp [execOp,hop,h1],.value y h2⟩
  ·obtain ⟨y,w',h1,h2⟩:=uy ok I e
   exact ⟨.value y,w',by simp [execOp,hop,h1],.value y h2⟩
 ·rename_i t l c hop
  obtain ⟨y,w',h1,h2⟩:=vR ok I e
  exact ⟨.value y,w',by simp [execOp,hop,h1],.value y h2⟩
 ·rename_i c hop
  split at e
  ·rename_i t t2 s x hap
   obtain ⟨q1,q2,q3⟩:=zh hap
   obtain ⟨y,w',h1,h2⟩:=zi (ty:=o.type) ok I e
   refine ⟨.value y,w',?_,.value y h2⟩
   simp [execOp,hop,resolve,invoke,builtin,q1,q2,q3,h1]
  ·exact jA ok I e
 ·rename_i src dst x hop
  split at e
  ·rename_i rows hb
   rw [Option.bind_eq_some_iff] at e
   obtain ⟨xs,h1,h2⟩:=e
   have h3:=wE ok I hb h1
   exact ⟨.value _,w,by simp [execOp,hop,h3],ml I (.one_v _ rfl) h2⟩
  ·split at e
   ·rename_i D2 hs
    cases e
    obtain ⟨y,w',h1,h2⟩:=xq ok I hs
    exact ⟨.value y,w',by simp [execOp,hop,h1],.value y h2⟩
   ·exact jA ok I e
 ·rename_i t parts hop
  split at e
  ·obtain ⟨y,h3,h4⟩:=yd ok I e
   exact ⟨.value y,w,by simp [execOp,hop,h3],.value y h4⟩
  ·rw [Option.bind_eq_some_iff] at e
   obtain ⟨s,h1,h2⟩:=e
   obtain ⟨y,h3,h4⟩:=BB ok I h1
   exact ⟨.value y,w,by simp [execOp,hop,h3],ml I h4 h2⟩
 ·exact jA ok I e
end Go.Proofs.YtgaiiephdjllkaaGreatDoor.Am
namespace Go.Proofs.YtgaiiephdjllkaaGreatDoor.Am
set_option linter.unusedVariables false
set_option linter.unusedSimpArgs false
open Go
mutual
def T.er:DT→T Unit
 | .v x => .v x
 | .any => .any
 | .s k _ z rows => .s k () z (sj rows)
def vn:List DT→List (T Unit)
 | []=>[]
 | t::r=>t.er::vn r
def sj:List (List DT)→List (List (T Unit))
 | []=>[]
 | r::rs=>vn r::sj rs
end
abbrev erL:List DT→List (T Unit):=List.map T.er
theorem F4 (r:List DT):vn r=erL r:=by
 induction r with
 | nil=>simp [vn]
 | cons t r ih=>simp [vn,ih]
theorem xC (r:List (List DT)):sj r=r.map erL:=by
 induction r with
 | nil=>simp [sj]
 | cons t r ih=>simp [sj,ih,F4]
theorem au (k:Kd) (d:Dec) (z:Nat) (rows:List (List DT)):(T.s k d z rows:DT).er = .s k () z (rows.map erL):=by
 rw [T.er,xC]
theorem dg (x:Value):(T.v x:DT).er = .v x:=rfl
theorem pN:(T.any:DT).er = .any:=rfl
def Sl.er:DSl→Sl Unit Unit
 | .any => .any
 | .one t => .one t.er
 | .agg ts => .agg (erL ts)
 | .box _ ts => .box () (erL ts)
 | .al h c st lo len => .al h c st lo len
 | .pb h off => .pb h off
 | .pe h c st i off => .pe h c st i off
 | .im k _ ts off => .im k () (erL ts) off
 | .fni f caps => .fni f (caps.map fun p=>((),erL p.2))
 | .clo f hs => .clo f hs
 | .tup rs => .tup (rs.map fun r=>(r.1,erL r.2))
def erD (D:DSt):St Unit Unit:=D.map Sl.er
theorem GJ (k:Kd) (t:DT):(t.kd k).er=t.er.kd k:=by
 cases t with
 | s k' d z r=>cases k'<;>simp [T.kd,au]
 | _=>rfl
theorem CJ (k:Kd) (t:DT):(t.view k).er=t.er.view k:=by
 cases t with
 | s k' d z r=>simp [T.view,au]
 | _=>rfl
theorem cu (t:DT):t.er.isOwn=t.isOwn:=by
 cases t with
 | s k' d z r=>cases k'<;>simp [T.isOwn,au]
 | _=>rfl
theorem l6 (t:DT):t.er.fine=t.fine:=by
 cases t with
 | s k' d z r=>cases k'<;>simp [T.fine,au]
 | _=>rfl
theorem pO (t:DT):t.er.flat=t.flat:=by
 cases t with
 | s k' d z r=>simp [T.flat,au]
 | _=>rfl
theorem hY (t:DT):t.er.noLent=t.noLent:=by
 cases t with
 | s k' d z r=>cases k'<;>simp [T.noLent,au]
 | _=>rfl
theorem er_dead (p:Nat→Nat→Bool) (t:DT):(t.dead p).er=t.er.dead p:=by
 cases t with
 | s k' d z r =>
  cases k' with
  | lent h c fl=>simp only [T.dead,au];split<;>simp [au,pN]
  | _=>simp [T.dead,au]
 | _=>rfl
theorem qF (p:Nat→Nat→Bool) (ts:List DT):erL (ts.map (T.dead p))=(erL ts).map (T.dead p):=by
 simp only [erL,List.map_map];exact List.map_congr_left fun t _=>er_dead p t
theorem nT (k:Kd) (ts:List DT):erL (ts.map (T.view k))=(erL ts).map (T.view k):=by
 simp only [erL,List.map_map];exact List.map_congr_left fun t _=>CJ k t
theorem Sl.er_dead (p:Nat→Nat→Bool) (q:Nat→Nat→Bool→Bool) (s:DSl):(s.dead p q).er=s.er.dead p q:=by
 cases s with
 | one t=>simp [Sl.dead,Sl.er,Am.er_dead]
 | agg ts=>simp only [Sl.dead,Sl.er,qF]
 | box b ts=>simp only [Sl.dead,Sl.er,qF]
 | al h c st lo len=>by_cases e:q h c (!st.isEmpty)=true<;>simp [e,Sl.dead,Sl.er]
 | pe h c st lo len=>by_cases e:q h c (!st.isEmpty)=true<;>simp [e,Sl.dead,Sl.er]
 | im k b ts off =>
  cases k with
  | lent h c fl=>by_cases e:p h c=true<;>simp [e,Sl.dead,Sl.er]
  | _=>simp [Sl.dead,Sl.er]
 | tup rs=>simp only [Sl.dead,Sl.er,List.map_map];congr 1;exact List.map_congr_left fun r _=>by simp only [Function.comp,qF]
 | _=>rfl
theorem Sl.er_gone (t:Nat) (s:DSl):(s.gone t).er=s.er.gone t:=by
 cases s with
 | pb h off=>by_cases e:h=t<;>simp [e,Sl.gone,Sl.er]
 | clo f hs=>by_cases e:t∈hs<;>simp [e,Sl.gone,Sl.er]
 | _=>rfl
theorem jg (p:Nat→Nat→Bool) (q:Nat→Nat→Bool→Bool) (D:DSt):erD (St.dead p q D)=St.dead p q (erD D):=by
 simp only [St.dead,erD,List.map_map];exact List.map_congr_left fun s _=>Sl.er_dead p q s
theorem dL (D:DSt):(erD D).length=D.length:=by simp [erD]
theorem bE (D:DSt) (t:Nat):(erD D)[t]?=(D[t]?).map Sl.er:=by simp [erD]
theorem eH (D:DSt) (t:Nat) (s:DSl):erD (D.set t s)=(erD D).set t s.er:=by simp [erD,List.map_set]
theorem gl (t:Nat) (D:DSt):erD (aM t D)=aM t (erD D):=by
 unfold aM
 rw [eH, ← jg]
 congr 1
 simp only [erD,List.map_map]
 exact List.map_congr_left fun s _=>Sl.er_gone t s
theorem F7 (t:Nat) (s:DSl):(s.clean t).er=s.er.clean t:=by unfold Sl.clean;rw [Sl.er_gone,Sl.er_dead]
theorem bK (D:DSt) (dst:Option Nat) (s:DSl):erD (aL D dst s)=aL (erD D) dst s.er:=by
 cases dst with
 | none=>rfl
 | some t=>simp only [aL];rw [eH,gl,F7]
theorem tD (D:DSt) (t:Nat) (s:DSl):erD (putA D t s)=putA (erD D) t s.er:=by
 unfold putA
 rw [bE]
 cases h:D[t]? with
 | none=>exact bK D (some t) s
 | some x=>cases x<;>first | exact eH D t s | exact bK D (some t) s
theorem lb (D:DSt) (dst:Option Nat) (s:DSl):dj (erD D) dst s.er=(dj D dst s).map erD:=by
 cases dst with
 | none=>rfl
 | some t=>simp only [dj,dL];split<;>simp [tD]
theorem so (s:DSl):aI s.er=(aI s).map erL:=by cases s<;>simp [aI,Sl.er]
theorem BO (cs:List DT) (s:DSl):(setCells cs s).er=setCells (erL cs) s.er:=by
 cases s with
 | one t=>cases cs<;>simp [setCells,Sl.er,pN]
 | _=>simp [setCells,Sl.er]
theorem hU (D:DSt) (h c:Nat):am (erD D) h c=(am D h c).map T.er:=by
 unfold am
 rw [bE]
 cases D[h]? with
 | none=>rfl
 | some s =>
  simp only [Option.map_some,Option.bind_some,so]
  cases aI s with
  | none=>rfl
  | some cs=>simp
theorem zJ (D:DSt) (h c:Nat) (t:DT):et (erD D) h c t.er=(et D h c t).map erD:=by
 unfold et
 rw [bE]
 cases D[h]? with
 | none=>rfl
 | some s =>
  simp only [Option.map_some,so]
  cases aI s with
  | none=>rfl
  | some cs =>
   simp only [Option.map_some,eH,BO]
   simp [List.map_set]
theorem pP:∀ (st:List (Nat×Nat)) (t:DT),getN t.er st=(getN t st).map T.er
 | [],t=>by simp [getN]
 | (i,c)::st,t=>by
  cases t with
  | v x=>rfl
  | any=>rfl
  | s k d z rows =>
   simp only [au,getN,List.getElem?_map]
   cases rows[i]? with
   | none=>rfl
   | some row =>
    simp only [Option.map_some,Option.bind_some,List.getElem?_map]
    cases row[c]? with
    | none=>rfl
    | some u=>simp only [Option.map_some,Option.bind_some];exact pP st u
theorem CI {f:DT→Option DT} {f':T Unit→Option (T Unit)} (hf:∀ t,f' t.er=(f t).map T.er):∀ (st:List (Nat×Nat)) (t:DT),eg f' t.er st=(eg f t st).map T.er
 | [],t=>by simp only [eg];exact hf t
 | (i,c)::st,t=>by
  cases t with
  | v x=>rfl
  | any=>rfl
  | s k d z rows =>
   simp only [au,eg,List.getElem?_map]
   cases rows[i]? with
   | none=>rfl
   | some row =>
    simp only [Option.map_some,Option.bind_some,List.getElem?_map]
    cases row[c]? with
    | none=>rfl
    | some u =>
     simp only [Option.map_some,Option.bind_some]
     rw [CI hf st u]
     cases eg f u st with
     | none=>rfl
     | some u'=>simp [au,List.map_set]
theorem mM (D:DSt) (h c:Nat) (st:List (Nat×Nat)):cf (erD D) h c st=(cf D h c st).map T.er:=by
 unfold cf
 rw [hU]
 cases am D h c with
 | none=>rfl
 | some t=>simp only [Option.map_some,Option.bind_some];exact pP st t
theorem l7 {f:DT→Option DT} {f':T Unit→Option (T Unit)} (hf:∀ t,f' t.er=(f t).map T.er) (D:DSt) (h c:Nat) (st:List (Nat×Nat)) :
  cE f' (erD D) h c st=(cE f D h c st).map erD:=by
 unfold cE
 rw [hU]
 cases am D h c with
 | none=>rfl
 | some t =>
  simp only [Option.map_some,Option.bind_some]
  rw [CI hf]
  cases eg f t st with
  | none=>rfl
  | some t'=>simp only [Option.map_some,Option.bind_some];exact zJ D h c t'
theorem EM (D:DSt) (t:Nat):nR (erD D) t=(nR D t).map Sl.er:=by
 unfold nR
 rw [bE]
 cases D[t]? with
 | none=>rfl
 | some s =>
  cases s with
  | one u =>
   cases u with
   | s k d z rows=>cases k<;>simp [Sl.er,au]
   | _=>rfl
  | agg ts =>
   simp only [Option.map_some,Sl.er,Option.some.injEq,Sl.agg.injEq]
   apply List.ext_getElem?
   intro i
   simp only [List.getElem?_mapIdx,List.getElem?_map,Option.map_map]
   cases ts[i]? with
   | none=>rfl
   | some u=>simp [GJ]
  | _=>rfl
theorem ER (D:DSt) (x:Operand):opd () (erD D) x=(opd nilD D x).map Sl.er:=by
 cases x with
 | tmp t=>exact EM D t
 | const v =>
  simp only [opd]
  unfold wG
  split
  ·simp [Sl.er,au]
  ·rfl
  ·split<;>simp [Sl.er,dg]
 | func f=>simp [opd,Sl.er]
 | global g=>rfl
theorem bR (D:DSt) (x:Operand):opd mkU.nil (erD D) x=(opd mkD.nil D x).map Sl.er:=ER D x
theorem BH (D:DSt) (h o n:Nat):boxRange (erD D) h o n=(boxRange D h o n).map erL:=by
 unfold boxRange
 rw [bE]
 cases D[h]? with
 | none=>rfl
 | some s =>
  cases s with
  | box b ts=>simp only [Option.map_some,Sl.er,List.length_map];split<;>simp [List.map_take,List.map_drop]
  | _=>rfl
theorem BN (D:DSt) (h c:Nat) (st:List (Nat×Nat)) (i o n:Nat):rowRange (erD D) h c st i o n=(rowRange D h c st i o n).map erL:=by
 unfold rowRange
 rw [hU]
 cases am D h c with
 | none=>rfl
 | some t =>
  simp only [Option.map_some,cu]
  split
  ·rw [pP]
   cases getN t st with
   | none=>rfl
   | some u =>
    cases u with
    | s k d z rows =>
     simp only [Option.map_some,au,List.getElem?_map]
     cases rows[i]? with
     | none=>rfl
     | some row=>simp only [Option.map_some,Option.bind_some,List.length_map];split<;>simp [List.map_take,List.map_drop]
    | _=>rfl
  ·rfl
theorem EP (D:DSt) (ti:TI) (s:DSl):gp (erD D) ti s.er=(gp D ti s).map Sl.er:=by
 cases s with
 | pb h o =>
  simp only [Sl.er,gp,BH]
  cases boxRange D h o ti.size with
  | none=>rfl
  | some cs =>
   simp only [Option.map_some,Option.bind_some]
   split
   ·simp only [Option.map_some,Sl.er,Option.some.injEq,Sl.agg.injEq]
    apply List.ext_getElem?
    intro i
    simp only [List.getElem?_mapIdx,List.getElem?_map,Option.map_map]
    cases cs[i]? with
    | none=>rfl
    | some u=>simp [GJ]
   ·match cs with
    | []=>rfl
    | [u] =>
     cases u with
     | s k d z rows=>cases k<;>simp [erL,au,Sl.er]
     | _=>rfl
    | u::v::r=>simp [erL]
 | pe h c st i o =>
  simp only [Sl.er,gp,BN]
  cases rowRange D h c st i o ti.size with
  | none=>rfl
  | some cs =>
   simp only [Option.map_some,Option.bind_some]
   split
   ·simp only [Option.map_some,Sl.er,nT]
   ·match cs with
    | []=>rfl
    | [u] =>
     cases u with
     | s k d z rows=>cases k<;>simp [erL,au,Sl.er,T.view]
     | _=>rfl
    | u::v::r=>simp [erL]
 | im k b ts o =>
  simp only [Sl.er,gp,List.length_map]
  split
  ·split
   ·simp only [Option.map_some,Sl.er,nT,erL,List.map_take,List.map_drop]
   ·simp only [erL, ← List.map_drop, ← List.map_take]
    match (ts.drop o).take ti.size with
    | []=>rfl
    | [u]=>simp [Sl.er,CJ]
    | u::v::r=>rfl
  ·rfl
 | _=>rfl
end Go.Proofs.YtgaiiephdjllkaaGreatDoor.Am
namespace Go.Proofs.YtgaiiephdjllkaaGreatDoor.Am
set_option linter.unusedVariables false
set_option linter.unusedSimpArgs false
open Go
theorem zF (D:DSt) (h c:Nat) (st:List (Nat×Nat)):lL (erD D) h c st=lL D h c st:=by
 unfold lL
 rw [mM]
 cases cf D h c st with
 | none=>rfl
 | some t =>
  cases t with
  | s k d z rows=>simp [au]
  | _=>rfl
theorem Dq (D:DSt) (tab:Tab) (t:Nat) (x:DSl) (lo hi:Option Int):iQ mkU (erD D) tab t x.er lo hi=(iQ mkD D tab t x lo hi).map Sl.er:=by
 cases x with
 | one u =>
  cases u with
  | v y =>
   cases y<;>simp only [Sl.er,dg,iQ]<;>first | rfl | skip
   split
   ·split<;>simp [Sl.er,dg]
   ·rfl
  | any=>rfl
  | s k d z rows =>
   simp only [Sl.er,au,iQ,List.length_map]
   split
   ·rfl
   ·split
    ·split
     ·split
      ·simp [Sl.er,au,mkU]
      ·rfl
     ·rfl
    ·rfl
 | al h c st l len =>
  simp only [Sl.er,iQ,zF]
  split
  ·split
   ·split<;>simp [Sl.er]
   ·rfl
  ·rfl
 | _=>rfl
theorem wK (D:DSt) (tab:Tab) (t:Nat) (x:DSl) (i:Int):fv mkU (erD D) tab t x.er i=(fv mkD D tab t x i).map Sl.er:=by
 unfold fv
 split
 ·cases x with
  | one u =>
   cases u with
   | v y=>rfl
   | any=>rfl
   | s k d z rows =>
    simp only [Sl.er,au,List.getElem?_map]
    split
    ·rfl
    ·split
     ·split
      ·cases rows[i.toNat]? with
       | none=>rfl
       | some row=>simp [Sl.er]
      ·rfl
     ·rfl
  | al h c st lo len =>
   simp only [Sl.er,zF]
   split
   ·split<;>simp [Sl.er]
   ·rfl
  | _=>rfl
 ·rfl
theorem wJ (tab:Tab) (t:Nat) (x:DSl) (f:Nat):iK tab t x.er f=(iK tab t x f).map Sl.er:=by
 unfold iK
 split
 ·rename_i offs _
  cases offs[f]? with
  | none=>rfl
  | some o=>cases x<;>rfl
 ·rfl
theorem Gc (tab:Tab) (t:Nat) (x:DSl):qW tab t x.er=qW tab t x:=by
 unfold qW
 split
 ·cases x with
  | one u =>
   cases u with
   | s k d z rows=>simp [Sl.er,au]
   | _=>rfl
  | _=>rfl
 ·cases x with
  | one u =>
   cases u with
   | s k d z rows=>simp [Sl.er,au]
   | v y=>cases y<;>rfl
   | any=>rfl
  | _=>rfl
 ·rfl
theorem Ge (x:DSl):vZ x.er=vZ x:=by cases x<;>rfl
theorem ES (D:DSt) (x:Option Operand):fR () (erD D) x=fR nilD D x:=by
 cases x with
 | none=>rfl
 | some x =>
  simp only [fR,ER]
  cases opd nilD D x with
  | none=>rfl
  | some s =>
   cases s with
   | one u =>
    cases u with
    | s k d z rows=>simp [Sl.er,au]
    | v y=>cases y<;>rfl
    | any=>rfl
   | _=>rfl
theorem Dm (D:DSt) (x:Option Operand):fR mkU.nil (erD D) x=fR mkD.nil D x:=ES D x
theorem F9 (tab:Tab) (D:DSt) (c:Call):vv mkU tab (erD D) c=(vv mkD tab D c).map Sl.er:=by
 unfold vv
 split
 ·rename_i x t _ _ _
  rw [bR]
  cases opd mkD.nil D x with
  | none=>rfl
  | some s =>
   simp only [Option.map_some,Option.bind_some,Gc]
   cases qW tab t s with
   | none=>rfl
   | some n=>rfl
 ·rename_i x y _ _
  simp only [bR]
  cases hx:opd mkD.nil D x with
  | none=>rfl
  | some sx =>
   cases hy:opd mkD.nil D y with
   | none=>cases sx with
    | one u=>cases u with
     | s k d z rows=>simp [Sl.er,au]
     | v a=>cases a<;>rfl
     | any=>rfl
    | _=>rfl
   | some sy =>
    cases sx with
    | one u =>
     cases u with
     | s k d z rows=>simp [Sl.er,au]
     | any=>rfl
     | v a =>
      cases sy with
      | one v=>cases v with
       | s k d z rows=>cases a<;>simp [Sl.er,au,dg]
       | any=>cases a<;>rfl
       | v b=>cases a<;>cases b<;>rfl
      | _=>cases a<;>rfl
    | _=>rfl
 ·rename_i x y _ _
  simp only [bR]
  cases hx:opd mkD.nil D x with
  | none=>rfl
  | some sx =>
   cases hy:opd mkD.nil D y with
   | none=>cases sx with
    | one u=>cases u with
     | s k d z rows=>simp [Sl.er,au]
     | v a=>cases a<;>rfl
     | any=>rfl
    | _=>rfl
   | some sy =>
    cases sx with
    | one u =>
     cases u with
     | s k d z rows=>simp [Sl.er,au]
     | any=>rfl
     | v a =>
      cases sy with
      | one v=>cases v with
       | s k d z rows=>cases a<;>simp [Sl.er,au,dg]
       | any=>cases a<;>rfl
       | v b=>cases a<;>cases b<;>rfl
      | _=>cases a<;>rfl
    | _=>rfl
 ·rfl
theorem Hz (us:List DT) (off:Nat):(erL us)[off]?=(us[off]?).map T.er:=by simp [erL]
theorem vp (tab:Tab) (us vs:List DT):∀ l,gJ tab (erL us) (erL vs) l=gJ tab us vs l
 | []=>rfl
 | (off,ft)::r=>by
  simp only [gJ,Hz]
  cases tab.ti ft with
  | none=>rfl
  | some ti =>
   cases us[off]? with
   | none=>rfl
   | some u =>
    cases vs[off]? with
    | none=>cases u with
     | s k d z rows=>simp [au]
     | _=>rfl
    | some v =>
     cases u with
     | s k d z rows=>simp [au]
     | any=>rfl
     | v a =>
      cases v with
      | s k d z rows=>simp [au,dg]
      | any=>rfl
      | v b=>simp only [Option.map_some,dg,vp tab us vs r]
theorem Hx (tab:Tab) (op:BinOp) (t:Nat) (us vs:List DT):eqS tab op t (erL us) (erL vs)=eqS tab op t us vs:=by
 have:gJ tab (erL us) (erL vs)=gJ tab us vs:=funext fun l=>vp tab us vs l
 unfold eqS
 rw [this]
theorem uC (tab:Tab) (D:DSt) (op:Op):bA mkU tab (erD D) op=(bA mkD tab D op).map Sl.er:=by
 cases op with
 | move x=>exact bR D x
 | assign x=>exact bR D x
 | pick c x y =>
  simp only [bA,bR]
  cases opd mkD.nil D c with
  | none=>rfl
  | some s =>
   cases s with
   | one u =>
    cases u with
    | s k d z rows=>simp [Sl.er,au]
    | any=>rfl
    | v b=>(cases b<;>first | rfl | skip);rename_i b;cases b<;>rfl
   | _=>rfl
 | nilCheck x =>
  simp only [bA,bR]
  cases opd mkD.nil D x with
  | none=>rfl
  | some s=>simp only [Option.map_some,Option.bind_some,Ge];split<;>rfl
 | binOp op t x y ty =>
  simp only [bA,bR]
  cases hx:opd mkD.nil D x with
  | none=>rfl
  | some sx =>
   cases hy:opd mkD.nil D y with
   | none=>cases sx with
    | one u=>cases u with
     | s k d z rows=>simp [Sl.er,au]
     | v a=>first | rfl | (cases a<;>rfl)
     | any=>rfl
    | _=>rfl
   | some sy =>
    cases sx with
    | one u =>
     cases u with
     | s k d z rows=>simp [Sl.er,au]
     | any=>rfl
     | v a =>
      cases sy with
      | one v=>cases v with
       | s k d z rows=>first | (simp [Sl.er,au,dg];done) | (cases a<;>simp [Sl.er,au,dg])
       | any=>first | rfl | (cases a<;>rfl)
       | v b=>simp only [Option.map_some,Sl.er,dg,Option.map_map];rfl
      | _=>first | rfl | (cases a<;>rfl)
    | agg us =>
     cases sy with
     | agg vs =>
      simp only [Option.map_some,Sl.er,Hx,Option.map_map]
      rfl
     | one v=>cases v<;>rfl
     | _=>rfl
    | _=>rfl
 | unOp op t x =>
  simp only [bA,bR]
  cases opd mkD.nil D x with
  | none=>rfl
  | some s =>
   cases s with
   | one u =>
    cases u with
    | s k d z rows=>simp [Sl.er,au]
    | any=>rfl
    | v b=>cases b<;>first | rfl | (cases op<;>rfl)
   | _=>rfl
 | convert src dst x =>
  simp only [bA,bR]
  cases opd mkD.nil D x with
  | none=>rfl
  | some s =>
   cases s with
   | one u =>
    cases u with
    | s k d z rows=>simp [Sl.er,au]
    | any=>rfl
    | v b =>
     cases b<;>first | rfl | skip
     simp only [Option.map_some,Sl.er,dg]
     split<;>simp_all [Sl.er,dg]
   | _=>rfl
 | load t x =>
  simp only [bA,bR]
  cases opd mkD.nil D x with
  | none=>rfl
  | some s =>
   cases tab.ti t with
   | none=>rfl
   | some ti=>simp only [Option.map_some];split<;>first | rfl | exact EP D ti s
 | fieldAddr t x f =>
  simp only [bA,bR]
  cases opd mkD.nil D x with
  | none=>rfl
  | some s=>simp only [Option.map_some,Option.bind_some];exact wJ tab t s f
 | indexAddr t x i =>
  simp only [bA,bR]
  cases hx:opd mkD.nil D x with
  | none=>rfl
  | some sx =>
   cases hi:opd mkD.nil D i with
   | none=>rfl
   | some si =>
    cases si with
    | one u =>
     cases u with
     | s k d z rows=>simp [Sl.er,au]
     | any=>rfl
     | v b =>
      cases b<;>first | rfl | skip
      exact wK D tab t sx _
    | _=>rfl
 | index t x y =>
  simp only [bA,bR]
  cases hx:opd mkD.nil D x with
  | none=>rfl
  | some sx =>
   cases hy:opd mkD.nil D y with
   | none=>cases sx with
    | one u=>cases u with
     | s k d z rows=>simp [Sl.er,au]
     | v a=>cases a<;>rfl
     | any=>rfl
    | clo g hs=>cases g<;>rfl
    | _=>rfl
   | some sy =>
    cases sx with
    | clo g hs =>
     cases g with
     | fn f=>rfl
     | arr offs =>
      cases sy with
      | one v=>cases v with
       | s k d z rows=>simp [Sl.er,au]
       | any=>rfl
       | v b =>
        cases b<;>first | rfl | skip
        simp only [Option.map_some,Sl.er,dg]
        split
        ·split<;>simp_all [Sl.er]
        ·rfl
      | _=>rfl
    | one u =>
     cases u with
     | s k d z rows=>simp [Sl.er,au]
     | any=>rfl
     | v a =>
      cases a<;>first | rfl | skip
      cases sy with
      | one v=>cases v with
       | s k d z rows=>simp [Sl.er,au,dg]
       | any=>rfl
       | v b =>
        cases b<;>first | rfl | skip
        simp only [Option.map_some,Sl.er,dg]
        split
        ·split<;>simp [Sl.er,dg]
        ·rfl
      | _=>rfl
    | _=>rfl
 | slice t x lo hi mx =>
  cases mx with
  | some m=>rfl
  | none =>
   simp only [bA,bR,Dm]
   cases hx:opd mkD.nil D x with
   | none=>rfl
   | some sx =>
    cases fR mkD.nil D lo with
    | none=>rfl
    | some l =>
     cases fR mkD.nil D hi with
     | none=>rfl
     | some h=>exact Dq D tab t sx l h
 | call c=>exact F9 tab D c
 | _=>rfl
end Go.Proofs.YtgaiiephdjllkaaGreatDoor.Am
namespace Go.Proofs.YtgaiiephdjllkaaGreatDoor.Am
set_option linter.unusedVariables false
set_option linter.unusedSimpArgs false
open Go
theorem zK (k:Kd) (d:Dec) (z lo len:Nat) (rows:List (List DT)):(T.s k (mkD.win d lo z) z ((rows.drop lo).take len):DT).er = .s k (mkU.win () lo z) z (((rows.map erL).drop lo).take len):=by
 rw [au,List.map_take,List.map_drop]
 try rfl
theorem gK (D:DSt) (x:Operand):cellsCopy mkU (erD D) x=(cellsCopy mkD D x).map fun p=>(p.1,erL p.2):=by
 simp only [cellsCopy,bR]
 cases opd mkD.nil D x with
 | none=>rfl
 | some s =>
  cases s with
  | al h c st lo len =>
   simp only [Option.map_some,Sl.er,mM]
   split
   ·cases cf D h c st with
    | none=>rfl
    | some t =>
     cases t with
     | s k d z rows=>simp only [Option.map_some,au];rw [← zK];rfl
     | _=>rfl
   ·rfl
  | _=>rfl
theorem fL (f:DT→Bool) (g:T Unit→Bool) (h:∀ t,g t.er=f t) (ts:List DT):(erL ts).all g=ts.all f:=by
 simp only [erL,List.all_map]
 congr 1
 funext t;exact h t
theorem fM (D:DSt) (x:Operand):cellsTake mkU (erD D) x=(cellsTake mkD D x).map fun p=>(p.1,erL p.2.1,erD p.2.2):=by
 cases x with
 | tmp t =>
  simp only [cellsTake,bE]
  cases D[t]? with
  | none=>rfl
  | some s =>
   cases s with
   | one u=>simp only [Option.map_some,Sl.er,cu];split<;>simp [gl]
   | agg ts =>
    simp only [Option.map_some,Sl.er,fL T.noLent T.noLent hY]
    split<;>simp [gl]
   | al h c st lo len =>
    simp only [Option.map_some,Sl.er,mM]
    split
    ·cases cf D h c st with
     | none=>rfl
     | some n =>
      cases n with
      | s k d z rows =>
       cases k with
       | own =>
        simp only [Option.map_some,au]
        rw [← jg,l7 (f:=fun _=>some .any) (f':=fun _=>some .any) (fun t=>rfl)]
        cases cE (fun _=>some .any) (St.dead (co h c) (qHC h c) D) h c st with
        | none=>rfl
        | some D'=>simp only [Option.map_some];rw [← zK];rfl
       | _=>simp [au]
      | _=>rfl
    ·rfl
   | _=>rfl
 | _=>rfl
theorem vo (D:DSt) (x:Operand) (tk:Bool):cellsOf mkU (erD D) x tk=(cellsOf mkD D x tk).map fun p=>(p.1,erL p.2.1,erD p.2.2):=by
 unfold cellsOf
 split
 ·exact fM D x
 ·rw [gK]
  cases cellsCopy mkD D x<;>rfl
theorem pR (g:Bool) (ts:List DT):(fm g (erL ts):Option (Sl Unit Unit))=(fm g ts:Option DSl).map Sl.er:=by
 cases g with
 | true=>rfl
 | false =>
  match ts with
  | []=>rfl
  | [t]=>rfl
  | t::u::r=>rfl
theorem ji (l:List DT) (o:Nat) (new:List DT):erL (ao l o new)=ao (erL l) o (erL new):=by
 simp [ao,erL,List.map_append,List.map_take,List.map_drop]
theorem EX (i off:Nat) (us:List DT) (t:DT):setRow i off (erL us) t.er=(setRow i off us t).map T.er:=by
 cases t with
 | s k d z rows =>
  simp only [au,setRow,List.getElem?_map]
  cases rows[i]? with
  | none=>rfl
  | some row =>
   simp only [Option.map_some,Option.bind_some,List.length_map]
   split
   ·simp only [Option.map_some,au,List.map_set,ji]
   ·rfl
 | _=>rfl
theorem vt (D:DSt) (p:DSl) (us:List DT):fK (erD D) p.er (erL us)=(fK D p us).map erD:=by
 cases p with
 | pb h off =>
  simp only [Sl.er,fK,bE]
  cases D[h]? with
  | none=>rfl
  | some s =>
   cases s with
   | box b ts =>
    simp only [Option.map_some,Sl.er,List.length_map]
    split
    ·simp only [Option.map_some,eH,Sl.er,ji,jg,qF]
    ·rfl
   | _=>rfl
 | pe h c st i off =>
  simp only [Sl.er,fK,fL T.fine T.fine l6,hU]
  split
  ·cases am D h c with
   | none=>rfl
   | some t =>
    simp only [Option.map_some,cu,pP]
    split
    ·cases getN t st with
     | none=>rfl
     | some n =>
      cases n with
      | s k d z rows =>
       simp only [Option.map_some,au,List.getElem?_map]
       cases rows[i]? with
       | none=>rfl
       | some row =>
        simp only [Option.map_some,List.length_map]
        split
        ·have e:(((erL row).drop off).take us.length).all T.flat=((row.drop off).take us.length).all T.flat:=by
          rw [← fL T.flat T.flat pO]
          simp [erL,List.map_take,List.map_drop]
         rw [e, ← jg]
         exact l7 (fun t=>EX i off us t) _ h c st
        ·rfl
      | _=>rfl
    ·rfl
  ·rfl
 | _=>rfl
theorem Dr (tab:Tab) (D:DSt) (t:Nat) (p x:Operand) (tk:Bool):ms mkU tab (erD D) t p x tk=(ms mkD tab D t p x tk).map erD:=by
 simp only [ms,vo]
 cases tab.ti t with
 | none=>rfl
 | some ti =>
  cases cellsOf mkD D x tk with
  | none=>rfl
  | some r =>
   obtain ⟨g,us,D1⟩:=r
   simp only [Option.map_some,List.length_map]
   split
   ·rw [bR]
    cases opd mkD.nil D1 p with
    | none=>rfl
    | some q=>simp only [Option.map_some,Option.bind_some];exact vt D1 q us
   ·rfl
theorem zE (t:T Unit):(t.inj nilD).er=t.inj ():=by
 cases t with
 | s k d z rows=>simp [T.inj,au]
 | _=>rfl
theorem Dg (w:World) (tab:Tab) (D:DSt) (dst:Option Nat) (t:Nat):k7 mkU frU tab (erD D) dst t=(k7 mkD (frD w) tab D dst t).map erD:=by
 simp only [k7]
 cases tab.ti t with
 | none=>rfl
 | some ti =>
  cases dst with
  | none=>rfl
  | some d =>
   simp only [dL]
   split
   ·simp only [Option.map_some,bK,Sl.er,erL,List.map_map]
    have e:ti.zero.map (T.inj mkU.nil)=ti.zero.map (T.er ∘ T.inj mkD.nil):=List.map_congr_left fun t _=>(zE t).symm
    rw [e]
   ·rfl
theorem F5 (w:World) (D:DSt) (dst:Option Nat) (x:Operand) (tk:Bool):tC mkU frU (erD D) dst x tk=(tC mkD (frD w) D dst x tk).map erD:=by
 simp only [tC,vo]
 cases cellsOf mkD D x tk with
 | none=>rfl
 | some r =>
  obtain ⟨g,us,D1⟩:=r
  cases dst with
  | none=>rfl
  | some d =>
   simp only [Option.map_some,dL]
   split
   ·simp only [Option.map_some,bK,Sl.er]
    try rfl
   ·rfl
theorem t6 (D:DSt) (x:Operand) (dst:Option Nat) :
  ((cellsTake mkU (erD D) x).bind fun r=>match dst with | some t=>if t<r.2.2.length then (fm r.1 r.2.1).map fun s=>aL r.2.2 (some t) s else none | none=>none) =
   ((cellsTake mkD D x).bind fun r=>match dst with | some t=>if t<r.2.2.length then (fm r.1 r.2.1).map fun s=>aL r.2.2 (some t) s else none | none=>none).map erD:=by
 rw [fM]
 cases cellsTake mkD D x with
 | none=>rfl
 | some r =>
  obtain ⟨g,us,D1⟩:=r
  cases dst with
  | none=>rfl
  | some d =>
   simp only [Option.map_some,Option.bind_some,dL,pR]
   split
   ·cases (fm g us:Option DSl) with
    | none=>rfl
    | some s=>simp only [Option.map_some,bK]
   ·rfl
theorem BM (tab:Tab) (D:DSt) (t:Nat) (x:Operand):ip mkU tab (erD D) t x=(ip mkD tab D t x).map fun r=>(r.1,erL r.2.1,erD r.2.2):=by
 unfold ip
 rw [bR]
 cases tab.ti t with
 | none=>rfl
 | some ti =>
  cases hx:opd mkD.nil D x with
  | none=>rfl
  | some s =>
   cases s with
   | pb h off =>
    cases off with
    | zero =>
     simp only [Option.map_some,Sl.er,bE]
     cases D[h]? with
     | none=>rfl
     | some u =>
      cases u with
      | box b ts =>
       simp only [Option.map_some,Sl.er,List.length_map]
       have e:(erL ts).all T.noLent=ts.all T.noLent:=by
        rw [List.all_map]
        congr 1
        funext u
        cases u with
        | s k d z r=>cases k<;>simp [au,T.noLent]
        | _=>rfl
       rw [e]
       split
       ·simp [gl]
       ·rfl
      | _=>rfl
    | succ n=>rfl
   | one u=>simp [Sl.er]
   | _=>rfl
theorem BL (tab:Tab) (D:DSt) (t:Nat) (x:Operand) (dst:Option Nat) :
  ((ip mkU tab (erD D) t x).bind fun r=>match dst with | some t=>if t<r.2.2.length then (fm r.1 r.2.1).map fun s=>aL r.2.2 (some t) s else none | none=>none) =
   ((ip mkD tab D t x).bind fun r=>match dst with | some t=>if t<r.2.2.length then (fm r.1 r.2.1).map fun s=>aL r.2.2 (some t) s else none | none=>none).map erD:=by
 rw [BM]
 cases ip mkD tab D t x with
 | none=>rfl
 | some r =>
  obtain ⟨g,us,D1⟩:=r
  cases dst with
  | none=>rfl
  | some d =>
   simp only [Option.map_some,Option.bind_some,dL,pR]
   split
   ·cases (fm g us:Option DSl) with
    | none=>rfl
    | some s=>simp only [Option.map_some,bK]
   ·rfl
theorem iJ (tab:Tab) (D:DSt) (op:Op) (dst:Option Nat):((bA mkU tab (erD D) op).bind fun s=>dj (erD D) dst s)=((bA mkD tab D op).bind fun s=>dj D dst s).map erD:=by
 rw [uC]
 cases bA mkD tab D op with
 | none=>rfl
 | some s=>simp only [Option.map_some,Option.bind_some];exact lb D dst s
theorem sn (D:DSt) (z:Nat):∀ (parts:List (Nat×Operand)) (rows:List (List DT)),gZ mkU (erD D) z parts (rows.map erL)=(gZ mkD D z parts rows).map (List.map erL)
 | [],rows=>rfl
 | (i,x)::r,rows=>by
  simp only [gZ,gK]
  cases cellsCopy mkD D x with
  | none=>rfl
  | some gu =>
   obtain ⟨g,us⟩:=gu
   simp only [Option.map_some,List.length_map,fL T.fine T.fine l6]
   split
   ·have e:(rows.map erL).set i (erL us)=(rows.set i us).map erL:=by rw [List.map_set]
    rw [e];exact sn D z r _
   ·rfl
theorem l8 (ti:TI):ti.zero.map (T.inj mkU.nil)=erL (ti.zero.map (T.inj mkD.nil)):=by
 simp only [erL,List.map_map]
 exact List.map_congr_left fun t _=>(zE t).symm
theorem oI (w:World) (tab:Tab) (D:DSt) (dst:Option Nat) (t len:Nat) (parts:List (Nat×Operand)):dw mkU frU tab (erD D) dst t len parts=(dw mkD (frD w) tab D dst t len parts).map erD:=by
 unfold dw
 split
 ·rename_i sz by_ ze e d hti
  cases tab.ti e with
  | none=>rfl
  | some te =>
   simp only [dL]
   split
   ·have e1:List.replicate len (te.zero.map (T.inj mkU.nil))=(List.replicate len (te.zero.map (T.inj mkD.nil))).map erL:=by
     rw [List.map_replicate,l8]
    rw [e1,sn]
    cases gZ mkD D te.size parts (List.replicate len (te.zero.map (T.inj mkD.nil))) with
    | none=>rfl
    | some rows=>simp only [Option.map_some,bK,Sl.er,au]
   ·rfl
 ·rfl
theorem Dl (s:DSl):intOfSl s.er=intOfSl s:=by
 cases s with
 | one u =>
  cases u with
  | s k d z r=>simp [Sl.er,au,intOfSl]
  | v x=>cases x<;>rfl
  | any=>rfl
 | _=>rfl
theorem zG (D:DSt) (x:Operand):(opd mkU.nil (erD D) x).bind intOfSl=(opd mkD.nil D x).bind intOfSl:=by
 rw [bR]
 cases opd mkD.nil D x with
 | none=>rfl
 | some s=>exact Dl s
theorem pQ (w:World) (tab:Tab) (D:DSt) (dst:Option Nat) (t:Nat) (l c:Operand):dy mkU frU tab (erD D) dst t l c=(dy mkD (frD w) tab D dst t l c).map erD:=by
 unfold dy
 rw [zG,zG]
 split
 ·rename_i sz by_ ze e d n k hti hl hc
  cases tab.ti e with
  | none=>rfl
  | some te =>
   simp only [dL]
   split
   ·split
    ·have e1:List.replicate n.toNat (te.zero.map (T.inj mkU.nil))=(List.replicate n.toNat (te.zero.map (T.inj mkD.nil))).map erL:=by
      rw [List.map_replicate,l8]
     rw [e1]
     simp only [Option.map_some,bK,Sl.er,au]
    ·rfl
   ·rfl
 ·rfl
theorem G6 (t:DT):t.hole.er=t.er.hole:=by
 cases t with
 | s k d z r=>cases k<;>simp [T.hole,au,pN]
 | _=>rfl
theorem zA (D:DSt) (dst:Option Nat) (x:Operand) (i:Nat):ld (erD D) dst x i=(ld D dst x i).map erD:=by
 cases x with
 | tmp t =>
  cases dst with
  | none=>rfl
  | some d =>
   simp only [ld,bE]
   cases D[t]? with
   | none=>rfl
   | some s =>
    cases s with
    | tup rs =>
     simp only [Option.map_some,Sl.er,List.getElem?_map]
     cases rs[i]? with
     | none=>rfl
     | some r =>
      obtain ⟨g,ts⟩:=r
      simp only [Option.map_some,dL,fL T.noLent T.noLent hY]
      split
      ·rw [pR]
       cases (fm g ts:Option DSl) with
       | none=>rfl
       | some s =>
        simp only [Option.map_some,bK,eH,Sl.er,List.map_set]
        have e:erL (ts.map T.hole)=(erL ts).map T.hole:=by
         simp only [erL,List.map_map];exact List.map_congr_left fun t _=>G6 t
        rw [e]
      ·rfl
    | _=>rfl
 | _=>cases dst<;>rfl
theorem iA (D:DSt) (pl:List (Nat×Nat)):∀ (parts:List (Nat×Operand)) (ts:List DT),bO mkU (erD D) pl parts (erL ts)=(bO mkD D pl parts ts).map erL
 | [],ts=>rfl
 | (i,x)::r,ts=>by
  simp only [bO,gK]
  cases pl[i]? with
  | none=>rfl
  | some q =>
   obtain ⟨off,size⟩:=q
   cases cellsCopy mkD D x with
   | none=>rfl
   | some gu =>
    obtain ⟨g,us⟩:=gu
    simp only [Option.map_some,List.length_map]
    split
    ·rw [← ji];exact iA D pl r _
    ·rfl
theorem Dh (tab:Tab) (D:DSt) (t:Nat) (parts:List (Nat×Operand)):l5 mkU tab (erD D) t parts=(l5 mkD tab D t parts).map Sl.er:=by
 simp only [l5]
 cases tab.ti t with
 | none=>rfl
 | some ti =>
  cases tab.pl t with
  | none=>rfl
  | some pl =>
   have e:ti.zero.map (T.inj mkU.nil)=erL (ti.zero.map (T.inj mkD.nil)):=by
    simp only [erL,List.map_map]
    exact List.map_congr_left fun t _=>(zE t).symm
   simp only
   rw [e,iA]
   cases bO mkD D pl parts (ti.zero.map (T.inj mkD.nil))<;>rfl
theorem qJ (D:DSt) (x:Operand):iI (erD D) x=iI D x:=by
 cases x with
 | tmp t =>
  simp only [iI,bE]
  cases D[t]? with
  | none=>rfl
  | some s =>
   cases s with
   | pb h off=>cases off<;>rfl
   | _=>rfl
 | _=>rfl
theorem tZ (D:DSt):∀ (xs:List Operand),kO (erD D) xs=kO D xs
 | []=>rfl
 | x::xs=>by simp only [kO,qJ,tZ D xs]
theorem F8 (D:DSt) (f:FuncId) (xs:List Operand):qz (erD D) f xs=(qz D f xs).map Sl.er:=by
 unfold qz
 rw [tZ,Option.map_map]
 rfl
theorem Df (rows:List (List DT)):(rows.map erL).all (fun r=>r.all T.flat)=rows.all (fun r=>r.all T.flat):=by
 rw [List.all_map]
 congr 1
 funext r
 show (erL r).all T.flat=_
 rw [List.all_map]
 congr 1
 funext t
 exact pO t
theorem G3 (D:DSt) (fl:Bool) (x:Operand):qy mkU (erD D) fl x=(qy mkD D fl x).map fun p=>(p.1,p.2.1.map erL,erD p.2.2):=by
 unfold qy
 cases fl with
 | true =>
  simp only [gK]
  cases cellsCopy mkD D x with
  | none=>rfl
  | some r =>
   obtain ⟨g,ts⟩:=r
   cases g with
   | true=>rfl
   | false =>
    match ts with
    | []=>rfl
    | [.v v]=>rfl
    | [.any]=>rfl
    | u::v::r=>(cases u with | s k d z rr=>simp [au] | _=>rfl)
    | [.s k2 d2 z2 rows2] =>
     simp only [Option.map_some,List.map_cons,List.map_nil,au,Df]
     split<;>rfl
 | false =>
  simp only [fM]
  cases cellsTake mkD D x with
  | none=>rfl
  | some r =>
   obtain ⟨g,ts,D2⟩:=r
   cases g with
   | true=>rfl
   | false =>
    match ts with
    | []=>rfl
    | [.v v]=>rfl
    | [.any]=>rfl
    | [.s .far d z rows]=>simp [au]
    | [.s (.lent h c fl) d z rows]=>simp [au]
    | u::v::r=>(cases u with | s k d z rr=>(cases k<;>simp [au]) | _=>rfl)
    | [.s .own d2 z2 rows2]=>simp [au]
theorem BG (w:World) (tab:Tab) (D:DSt) (dst:Option Nat) (t t2:Nat) (s x:Operand):jd mkU frU tab (erD D) dst t t2 s x=(jd mkD (frD w) tab D dst t t2 s x).map erD:=by
 unfold jd
 rw [fM]
 cases hs:cellsTake mkD D s with
 | none =>
  cases tab.ti t with
  | none=>rfl
  | some ti =>
   obtain ⟨_,_,_,sh⟩:=ti
   cases sh<;>try rfl
   cases tab.ti t2 with
   | none=>rfl
   | some ti2 =>
    obtain ⟨_,_,_,sh2⟩:=ti2
    cases sh2<;>try rfl
    cases dst<;>rfl
 | some r =>
  obtain ⟨g,ts,D1⟩:=r
  cases tab.ti t with
  | none=>rfl
  | some ti =>
   obtain ⟨_,_,_,sh⟩:=ti
   cases sh<;>try rfl
   rename_i e
   cases tab.ti t2 with
   | none=>rfl
   | some ti2 =>
    obtain ⟨_,_,_,sh2⟩:=ti2
    cases sh2<;>try rfl
    cases dst with
    | none=>rfl
    | some d' =>
     cases g with
     | true=>rfl
     | false =>
      match ts with
      | []=>rfl
      | [.v v]=>rfl
      | [.any]=>rfl
      | [.s .far d z rows]=>simp [au]
      | [.s (.lent h c fl) d z rows]=>simp [au]
      | u::v::r=>(cases u with | s k d z rr=>(cases k<;>simp [au]) | _=>rfl)
      | [.s .own d z rows] =>
       simp only [Option.map_some,List.map_cons,List.map_nil,au]
       cases tab.ti e with
       | none=>rfl
       | some te =>
        simp only [G3]
        cases qy mkD D1 (te.zero.all T.flat) x with
        | none=>rfl
        | some r2 =>
         obtain ⟨z2,rows2,D2⟩:=r2
         simp only [Option.map_some,dL,List.length_map]
         split
         ·split
          ·simp only [Option.map_some,bK,Sl.er,au,List.map_append]
          ·rfl
         ·rfl
theorem sq:∀ (rows:List (List DT)),cU (rows.map erL)=cU rows
 | []=>rfl
 | r::rs=>by
  match r with
  | []=>rfl
  | u::v::q =>
   cases u with
   | v x =>
    cases x with
    | int k n=>cases k<;>simp [cU,dg]
    | _=>simp [cU,dg]
   | any=>simp [cU,pN]
   | s k d z r=>simp [cU,au]
  | [.any]=>rfl
  | [.s k d z rows]=>simp [au,cU]
  | [.v (.int .u8 n)]=>simp only [List.map_cons,List.map_nil,dg,cU,sq rs]
  | [.v x] =>
   cases x with
   | int k n=>cases k<;>first | rfl | simp only [List.map_cons,List.map_nil,dg,cU,sq rs]
   | _=>rfl
theorem BI (tab:Tab) (D:DSt) (src dst:Nat) (x:Operand):je mkU tab (erD D) src dst x=(je mkD tab D src dst x).map (List.map erL):=by
 unfold je
 rw [gK]
 cases tab.ti src with
 | none=>rfl
 | some ti =>
  obtain ⟨_,_,_,sh⟩:=ti
  cases sh<;>try rfl
  rename_i e
  cases tab.ti dst with
  | none=>rfl
  | some ti2 =>
   obtain ⟨_,_,_,sh2⟩:=ti2
   cases sh2<;>try rfl
   cases cellsCopy mkD D x with
   | none=>rfl
   | some r =>
    obtain ⟨g,ts⟩:=r
    cases g with
    | true=>rfl
    | false =>
     match ts with
     | []=>rfl
     | [.v v]=>rfl
     | [.any]=>rfl
     | u::v::r=>(cases u with | s k d z rr=>simp [au] | _=>rfl)
     | [.s k d z rows] =>
      simp only [Option.map_some,List.map_cons,List.map_nil,au]
      by_cases hz:z=1
      ·subst hz
       simp only
       split
       ·rfl
       ·rfl
      ·simp [hz]
theorem vu (D:DSt) (x:Operand):gi (erD D) x=(gi D x).map (List.map fun r=>(r.1,erL r.2)):=by
 unfold gi
 cases x with
 | tmp t =>
  simp only [bE]
  cases D[t]? with
  | none=>rfl
  | some s =>
   cases s with
   | tup rs =>
    simp only [Option.map_some,Sl.er]
    have e1:((rs.map fun r=>(r.1,erL r.2)).all fun r=>r.2.all T.flat)=rs.all fun r=>r.2.all T.flat:=by
     rw [List.all_map]
     congr 1
     funext r
     show (erL r.2).all T.flat=_
     rw [List.all_map]
     congr 1
     funext u
     exact pO u
    have e2:(rs.map fun r=>(r.1,erL r.2))≠[]↔rs≠[]:=by cases rs<;>simp
    by_cases h:(rs.all fun r=>r.2.all T.flat)=true∧rs≠[]
    ·rw [if_pos h,if_pos ⟨e1.trans h.1,e2.2 h.2⟩];rfl
    ·rw [if_neg h,if_neg (fun g=>h ⟨e1.symm.trans g.1,e2.1 g.2⟩)];rfl
   | _=>rfl
 | _=>rfl
theorem Dt (D:DSt) (x:Operand) (dst:Option Nat):jX (erD D) x dst=(jX D x dst).map erD:=by
 cases x with
 | tmp t =>
  cases dst with
  | none=>rfl
  | some d =>
   simp only [jX,bE]
   cases D[t]? with
   | none=>rfl
   | some s =>
    cases s with
    | tup rs =>
     simp only [Option.map_some,Sl.er,dL]
     have e1:((rs.map fun r=>(r.1,erL r.2)).all fun r=>r.2.all T.noLent)=rs.all fun r=>r.2.all T.noLent:=by
      rw [List.all_map]
      congr 1
      funext r
      exact fL T.noLent T.noLent hY r.2
     rw [e1]
     split
     ·simp only [Option.map_some,bK,eH,Sl.er]
     ·rfl
    | _=>rfl
 | _=>cases dst<;>rfl
theorem Ds (s:ByteArray):(gf s:List (List DT)).map erL=gf s:=by
 unfold gf
 rw [List.map_map]
 exact List.map_congr_left fun b _=>by simp [dg]
theorem ye (w:World) (tab:Tab) (D:DSt) (dst:Option Nat) (src t:Nat) (x:Operand):eE mkU frU tab (erD D) dst src t x=(eE mkD (frD w) tab D dst src t x).map erD:=by
 unfold eE
 rw [bR]
 cases tab.ti src with
 | none=>rfl
 | some ti =>
  obtain ⟨_,_,_,sh⟩:=ti
  cases sh<;>try rfl
  cases tab.ti t with
  | none=>rfl
  | some ti2 =>
   obtain ⟨_,_,_,sh2⟩:=ti2
   cases sh2<;>try rfl
   rename_i e
   cases dst with
   | none=>rfl
   | some d =>
    cases hx:opd mkD.nil D x with
    | none=>rfl
    | some s =>
     cases s with
     | one u =>
      cases u with
      | v y =>
       cases y with
       | string s =>
        simp only [Option.map_some,Sl.er,dg,dL]
        split
        ·split
         ·simp only [Option.map_some,bK,Sl.er,au,Ds]
         ·rfl
        ·rfl
       | _=>rfl
      | any=>rfl
      | s k d' z r=>simp [Sl.er,au]
     | _=>rfl
theorem BP (tab:Tab) (D:DSt) (t:Nat) (p:Operand) (z:Nat):k6 mkU tab (erD D) t p z=(k6 mkD tab D t p z).map erD:=by
 unfold k6
 cases tab.ti t with
 | none=>rfl
 | some ti =>
  simp only
  split
  ·rw [bR]
   cases opd mkD.nil D p with
   | none=>rfl
   | some ps=>exact vt D ps [.s .own nilD z []]
  ·rfl
theorem Dn (us:List DT):(erL us).all (fun u=>u.isOwn || u.flat)=us.all (fun u=>u.isOwn || u.flat):=by
 show (us.map T.er).all _=_
 rw [List.all_map]
 congr 1
 funext u
 show (u.er.isOwn || u.er.flat)=_
 rw [cu,pO]
theorem wI (w:World) (tab:Tab) (D:DSt) (dst:Option Nat) (t len:Nat) (parts:List (Nat×Operand)):gA mkU frU tab (erD D) dst t len parts=(gA mkD (frD w) tab D dst t len parts).map erD:=by
 unfold gA
 split
 ·rename_i sz by_ ze e d x hti
  simp only [fM]
  cases tab.ti e with
  | none=>rfl
  | some te =>
   cases cellsTake mkD D x with
   | none=>rfl
   | some r =>
    obtain ⟨g,us,D1⟩:=r
    simp only [Option.map_some,dL,List.length_map,Dn]
    split
    ·simp only [Option.map_some,bK,Sl.er,au,List.map_cons,List.map_nil]
    ·rfl
 ·rfl
theorem EL (tab:Tab) (D:DSt) (dst:Option Nat) (t:Nat) (parts:List (Nat×Operand)):lq mkU tab (erD D) dst t parts=(lq mkD tab D dst t parts).map erD:=by
 unfold lq
 split
 ·rename_i ti pl i x r d hti hpl
  simp only [fM]
  cases pl[i]? with
  | none=>rfl
  | some os =>
   obtain ⟨off,size⟩:=os
   cases cellsTake mkD D x with
   | none=>rfl
   | some q =>
    obtain ⟨g,us,D1⟩:=q
    simp only [Option.map_some,dL,List.length_map]
    split
    ·have e1:ao (ti.zero.map (T.inj mkU.nil)) off (erL us)=erL (ao (ti.zero.map (T.inj mkD.nil)) off us):=by
      rw [l8,ji]
     rw [e1,iA]
     cases bO mkD D1 pl r (ao (ti.zero.map (T.inj mkD.nil)) off us) with
     | none=>rfl
     | some ts=>simp only [Option.map_some,bK,Sl.er]
    ·rfl
 ·rfl
theorem Do (D:DSt) (x:Operand):mi (erD D) x=mi D x:=by
 cases x with
 | tmp t =>
  simp only [mi,bE]
  cases D[t]? with
  | none=>rfl
  | some s =>
   simp only [Option.map_some]
   have ha:∀ ts:List DT,(erL ts).any T.isOwn=ts.any T.isOwn:=fun ts=>by
    rw [erL,List.any_map];congr 1;funext t;exact cu t
   cases s with
   | one t=>exact cu t
   | agg ts=>exact ha ts
   | tup rs =>
    simp only [Sl.er,Sl.isHome,List.any_map]
    congr 1
    funext r
    exact ha r.2
   | _=>rfl
 | _=>rfl
theorem Di (tab:Tab) (D:DSt) (dst:Option Nat) (t:Nat) (parts:List (Nat×Operand)):nH mkU tab (erD D) dst t parts=(nH mkD tab D dst t parts).map erD:=by
 unfold nH
 simp only [Do]
 split
 ·rename_i ti pl i x r d hti hpl hp
  simp only [fM,l8,iA]
  cases pl[i]? with
  | none=>rfl
  | some os =>
   obtain ⟨off,size⟩:=os
   cases cellsTake mkD D x with
   | none=>rfl
   | some q =>
    obtain ⟨g,us,D1⟩:=q
    cases bO mkD D pl (parts.takeWhile (fun p => !mi D p.2)) (ti.zero.map (T.inj mkD.nil)) with
    | none=>rfl
    | some ts0 =>
     simp only [Option.map_some,dL,List.length_map,fL T.noLent T.noLent hY]
     split
     ·rw [← ji,iA]
      cases bO mkD D1 pl r (ao ts0 off us) with
      | none=>rfl
      | some ts=>simp only [Option.map_some,bK,Sl.er]
     ·rfl
 ·rfl
theorem Dj (tab:Tab) (D:DSt) (dst:Option Nat) (t:Nat) (parts:List (Nat×Operand)):k8 mkU tab (erD D) dst t parts=(k8 mkD tab D dst t parts).map erD:=by
 unfold k8
 rw [EL,Di]
 cases lq mkD tab D dst t parts<;>rfl
theorem Gg (w:World) (tab:Tab) (D:DSt) (o:Oper) (tk:Bool):cv mkU frU tab (erD D) o tk=(cv mkD (frD w) tab D o tk).map erD:=by
 obtain ⟨dst,op,ty,pos,after,guard⟩:=o
 cases op with
 | store t p x =>
  cases dst with
  | none =>
   simp only [cv]
   cases oj tab t x with
   | some z=>exact BP tab D t p z
   | none=>exact Dr tab D t p x tk
  | some d=>rfl
 | alloc t=>exact Dg w tab D dst t
 | box t x=>exact F5 w D dst x tk
 | move x =>
  simp only [cv]
  cases oj tab ty x with
  | some z=>exact lb D dst (.one (.s .own nilD z []))
  | none =>
   simp only [vu]
   cases gi D x with
   | some rs=>exact lb D dst (.tup rs)
   | none =>
    cases tk with
    | true =>
     simp only [if_true,Dt]
     cases jX D x dst with
     | some D'=>rfl
     | none=>exact t6 D x dst
    | false=>exact iJ tab D (.move x) dst
 | assign x =>
  simp only [cv]
  cases oj tab ty x with
  | some z=>exact lb D dst (.one (.s .own nilD z []))
  | none =>
   cases tk with
   | true=>exact t6 D x dst
   | false=>exact iJ tab D (.assign x) dst
 | load t x =>
  cases tk with
  | true=>exact BL tab D t x dst
  | false=>exact iJ tab D (.load t x) dst
 | extract x i=>exact zA D dst x i
 | buildSlice t len parts =>
  cases tk with
  | true=>exact wI w tab D dst t len parts.toList
  | false=>exact oI w tab D dst t len parts.toList
 | makeSlice t l c=>exact pQ w tab D dst t l c
 | call c =>
  simp only [cv]
  cases pH c with
  | none=>exact iJ tab D (.call c) dst
  | some q =>
   obtain ⟨t,t2,s,x⟩:=q
   exact BG w tab D dst t t2 s x
 | convert src d x =>
  simp only [cv]
  rw [BI]
  cases je mkD tab D src d x with
  | none =>
   simp only [Option.map_none]
   rw [ye w]
   cases eE mkD (frD w) tab D dst src d x with
   | none=>exact iJ tab D (.convert src d x) dst
   | some D2=>rfl
  | some rows =>
   simp only [Option.map_some,sq]
   cases cU rows with
   | none=>rfl
   | some xs=>simp only [Option.bind_some];exact lb D dst (.one (.v (.string (strOfNums xs))))
 | makeFunc fn first caps =>
  cases fn with
  | func f =>
   simp only [cv]
   split
   ·rw [F8]
    cases qz D f caps.toList with
    | none=>rfl
    | some s=>simp only [Option.map_some,Option.bind_some];exact lb D dst s
   ·rfl
  | _=>rfl
 | build t parts =>
  cases tk with
  | true=>exact Dj tab D dst t parts.toList
  | false =>
   simp only [cv,Bool.false_eq_true,if_false,Dh]
   cases l5 mkD tab D t parts.toList with
   | none=>rfl
   | some s=>simp only [Option.map_some,Option.bind_some];exact lb D dst s
 | _=>simp only [cv];exact iJ tab D _ dst
end Go.Proofs.YtgaiiephdjllkaaGreatDoor.Am
namespace Go.Proofs.YtgaiiephdjllkaaGreatDoor.Am
set_option linter.unusedVariables false
set_option linter.unusedSimpArgs false
open Go
section
variable {δ β : Type}
def mw (D:St δ β):List Nat→Option (List (β×List (T δ)))
 | []=>some []
 | h::hs=>match D[h]? with | some (.box b ts)=>(mw D hs).map fun r=>(b,ts.map (T.view .far))::r | _=>none
def ims (caps:List (β×List (T δ))):List (Sl δ β):=caps.map fun p => .im .far p.1 p.2 0
def argOf (M:Mk δ β) (D:St δ β) (x:Operand):Option (Sl δ β) :=
 match opd M.nil D x with
 | some (.im _ b ts off)=>some (.im .far b ts off)
 | some (.pb h off)=>match D[h]? with | some (.box b ts)=>some (.im .far b (ts.map (T.view .far)) off) | _=>none
 | some (.fni f caps)=>some (.fni f caps)
 | some (.pe _ _ _ _ _)=>none
 | some (.clo (.fn f) hs)=>(mw D hs).map (.fni f ·)
 | _=>(cellsCopy M D x).bind fun p=>fm p.1 (p.2.map (T.view .far))
def argsOf (M:Mk δ β) (D:St δ β):List Operand→Option (List (Sl δ β))
 | []=>some []
 | x::xs=>(argOf M D x).bind fun s=>(argsOf M D xs).map fun r=>s::r
end
def Out (cx:Cx) (D:DSt) (X:List Nat):Prop:=∀ b∈X,cx.may b∧aZ D b=0
theorem Out.nil (cx:Cx) (D:DSt):Out cx D []:=fun b h=>by cases h
structure AOk (w:World) (X:List Nat) (a:DSl) (y:Value):Prop where
 val:∀ D,VS D a y
 mem:MemS w a
 kind:∀ D,dm ⟨w,X⟩ D a
 own:∀ b∈ownBl a,b∈X∧b<w.heap.size
theorem iD {a:DSl} (h:a.isHome=false):ownBl a=[]:=by
 cases a with
 | one t=>exact dI h
 | agg ts =>
  show ts.flatMap ownR=[]
  rw [List.flatMap_eq_nil_iff]
  intro t ht
  refine dI ?_
  cases ho:t.isOwn with
  | false=>rfl
  | true =>
   have:ts.any T.isOwn=false:=h
   rw [List.any_eq_false] at this
   exact absurd ho (this t ht)
 | box b ts=>cases h
 | tup rs =>
  show (rs.flatMap fun r=>r.2.flatMap ownR)=[]
  have h':(rs.any fun r=>r.2.any T.isOwn)=false:=h
  rw [List.any_eq_false] at h'
  rw [List.flatMap_eq_nil_iff]
  intro r hr
  rw [List.flatMap_eq_nil_iff]
  intro t ht
  refine dI ?_
  cases ho:t.isOwn with
  | false=>rfl
  | true=>exact absurd (List.any_eq_true.2 ⟨t,ht,ho⟩) (h' r hr)
 | _=>rfl
theorem gD {w:World} {X:List Nat} {a:DSl} (h:ownBl a=[]):∀ b∈ownBl a,b∈X∧b<w.heap.size:=fun b hb=>by rw [h] at hb;cases hb
theorem H5 {w:World} {b:Nat} (h:b<w.heap.size):(Cx.mk w []).far b:=⟨h,by simp⟩
theorem Inv.farX {cx:Cx} {D:DSt} {P:List (DT×Value)} {tm:Array Value} {w:World} (I:Inv cx D P tm w) {X:List Nat} (hX:Out cx D X) {b:Nat} (h:cx.far b):(Cx.mk w X).far b :=
 ⟨Nat.lt_of_lt_of_le h.1 I.frame.size,fun hb=>Cx.far_not h (hX b hb).1⟩
theorem E9 (t:DT):(t.view .far).isOwn=false:=by cases t<;>rfl
theorem AOk.views {w:World} {X:List Nat} {ts:List DT} {ys:List Value} {g:Bool} {y:Value} {s:DSl} (hv:VCells ts ys) (hh:∀ t∈ts,Holds w t) (hb:∀ t∈ts,∀ b∈bl t,(Cx.mk w X).far b)
  (hy:bI g y ys) (hs:fm g (ts.map (T.view .far))=some s):AOk w X s y∧s.isHome=false:=by
 have hK:∀ D,∀ t∈ts.map (T.view .far),bg ⟨w,X⟩ D t:=by
  intro D t ht
  obtain ⟨u,hu,rfl⟩:=List.mem_map.1 ht
  cases u with
  | v x=>trivial
  | any=>trivial
  | s k d z r=>exact fun x hx=>hb _ hu x (by rw [bW] at hx ⊢;exact hx)
 have hH:∀ t∈ts.map (T.view .far),Holds w t:=by
  intro t ht
  obtain ⟨u,hu,rfl⟩:=List.mem_map.1 ht
  exact jx (hh u hu)
 have hO:∀ t∈ts.map (T.view .far),t.isOwn=false:=by
  intro t ht
  obtain ⟨u,hu,rfl⟩:=List.mem_map.1 ht
  exact E9 u
 have hV:VCells (ts.map (T.view .far)) ys:=by
  refine ⟨by simpa using hv.1,fun i t y hi hy => ?_⟩
  rw [List.getElem?_map,Option.map_eq_some_iff] at hi
  obtain ⟨u,hu,rfl⟩:=hi
  exact nG.2 (hv.2 i u y hu hy)
 have hE:(ts.map (T.view .far)).flatMap ownR=[]:=by
  rw [List.flatMap_eq_nil_iff]
  intro t ht
  exact dI (hO t ht)
 generalize ts.map (T.view .far)=us at *
 unfold fm at hs
 split at hs
 ·cases hs
  refine ⟨⟨fun D=>⟨ys.toArray,by simpa [bI] using hy,by simpa using hV⟩,⟨hH,fun t ht ho => ?_,trivial⟩,fun D t ht=>hK D t ht,gD hE⟩,by
   show us.any T.isOwn=false
   rw [List.any_eq_false];exact fun t ht=>by rw [hO t ht];exact Bool.false_ne_true⟩
  rw [hO t ht] at ho;cases ho
 ·rename_i t
  cases hs
  have e:ys=[y]:=by simpa [bI] using hy
  subst e
  refine ⟨⟨fun D=>hV.2 0 t y rfl rfl,⟨fun u hu=>hH u (by simpa [ai] using hu),fun u hu ho => ?_,trivial⟩,fun D u hu=>hK D u (by simpa [ai] using hu),gD (by simpa [ownBl] using hE)⟩,hO _ (List.mem_singleton_self _)⟩
  have:=hO u (by simpa [rootsO] using hu)
  rw [this] at ho;cases ho
 ·cases hs
theorem Inv.out_kind {cx:Cx} {D:DSt} {P:List (DT×Value)} {tm:Array Value} {w:World} (I:Inv cx D P tm w) {X:List Nat} (hX:Out cx D X) {t:DT} (hk:bg cx D t) (ho:t.isOwn=false):∀ b∈bl t,(Cx.mk w X).far b:=by
 intro b hb
 cases t with
 | v x=>simp [bl] at hb
 | any=>simp [bl] at hb
 | s k d z r =>
  cases k with
  | own=>cases ho
  | far=>exact I.farX hX (hk b hb)
  | lent h c fl =>
   obtain ⟨t',h1,h2,h3,h3r⟩:=hk
   obtain ⟨s,g1,g2,g3,g3',g4⟩:=bD h1
   have hp:=bU (b:=b) g2 (g4 h2 b (h3 b hb))
   exact ⟨(I.bnd b (by omega)).2,fun q=>by have:=(hX b q).2;omega⟩
theorem Inv.out_own {cx:Cx} {D:DSt} {P:List (DT×Value)} {tm:Array Value} {w:World} (I:Inv cx D P tm w) {X:List Nat} (hX:Out cx D X) {s:DSl} (hs:s∈D) {b:Nat} (hb:b∈ownBl s):(Cx.mk w X).far b:=by
 have hp:=bU (b:=b) hs hb
 exact ⟨(I.bnd b (by omega)).2,fun q=>by have:=(hX b q).2;omega⟩
theorem vi {D:DSt}:∀ {hs:List Nat} {caps:List ((Nat×Nat)×List DT)},mw D hs=some caps→caps.length=hs.length ∧
  ∀ (i h:Nat),hs[i]?=some h→∃ (b:Nat×Nat) (ts:List DT),D[h]?=some (.box b ts)∧caps[i]?=some (b,ts.map (T.view .far))
 | [],caps,h=>by cases h;exact ⟨rfl,fun i h e=>by simp at e⟩
 | h::hs,caps,e=>by
  unfold mw at e
  split at e
  ·rename_i b ts hb
   rw [Option.map_eq_some_iff] at e
   obtain ⟨r,h1,rfl⟩:=e
   obtain ⟨g1,g2⟩:=vi h1
   refine ⟨by simp [g1],fun i h' hi => ?_⟩
   cases i with
   | zero=>simp at hi;subst hi;exact ⟨b,ts,hb,rfl⟩
   | succ i=>simp at hi;simpa using g2 i h' hi
  ·cases e
theorem Inv.boxFar {cx:Cx} {D:DSt} {P:List (DT×Value)} {tm:Array Value} {w:World} (I:Inv cx D P tm w) {X:List Nat} (hX:Out cx D X) {h:Nat} {b:Nat×Nat} {ts:List DT} (hb:D[h]?=some (.box b ts)) :
  (Cx.mk w X).far b.1∧Lies w b (ts.map (T.view .far))∧(∀ u∈ts.map (T.view .far),Holds w u)∧∀ u∈ts.map (T.view .far),∀ x∈bl u,(Cx.mk w X).far x:=by
 have hmem:=List.mem_of_getElem? hb
 have hm:=I.mem _ hmem
 have hlt:∀ t∈ts,∀ x∈bl t,(Cx.mk w X).far x:=by
  intro t ht x hx
  cases ho:t.isOwn with
  | true=>exact I.out_own hX hmem (by simp only [ownBl,List.mem_cons,List.mem_flatMap];exact .inr ⟨t,ht,by simp [ownR,ho,hx]⟩)
  | false=>exact I.out_kind hX (I.kind _ hmem t ht) ho x hx
 refine ⟨I.out_own hX hmem (by simp [ownBl]),?_,fun u hu => ?_,fun u hu x hx => ?_⟩
 ·obtain ⟨c,e,f,h1,h2⟩:=hm.2.2.1
  refine ⟨c,e,f,h1,fun j t hj => ?_⟩
  rw [List.getElem?_map,Option.map_eq_some_iff] at hj
  obtain ⟨u,hu,rfl⟩:=hj
  obtain ⟨y,y1,y2⟩:=h2 j u hu
  exact ⟨y,y1,nG.2 y2⟩
 ·obtain ⟨v,hv,rfl⟩:=List.mem_map.1 hu
  exact jx (hm.1 v hv)
 ·obtain ⟨v,hv,rfl⟩:=List.mem_map.1 hu
  rw [GV] at hx
  exact hlt v hv x hx
theorem Inv.cloArg {cx:Cx} {D:DSt} {P:List (DT×Value)} {tm:Array Value} {w:World} (I:Inv cx D P tm w) {X:List Nat} (hX:Out cx D X) {f:FuncId} {hs:List Nat} {caps:List ((Nat×Nat)×List DT)} (hc:mw D hs=some caps) {y:Value}
  (hv:VS D (.clo (.fn f) hs) y):AOk w X (.fni f caps) y:=by
 obtain ⟨bs,h1,h2,rfl⟩:=hv
 obtain ⟨g1,g2⟩:=vi hc
 have hall:∀ p∈caps,∃ (h:Nat) (ts:List DT),D[h]?=some (.box p.1 ts)∧p.2=ts.map (T.view .far):=by
  intro p hp
  obtain ⟨i,hi⟩:=List.getElem?_of_mem hp
  have hlt:i<hs.length:=by
   rcases Nat.lt_or_ge i caps.length with q | q
   ·omega
   ·rw [List.getElem?_eq_none q] at hi;cases hi
  obtain ⟨b,ts,k1,k2⟩:=g2 i hs[i] (List.getElem?_eq_getElem hlt)
  rw [hi] at k2
  cases k2
  exact ⟨_,ts,k1,rfl⟩
 have heq:bs=caps.map (·.1):=by
  apply List.ext_getElem?
  intro i
  rcases Nat.lt_or_ge i hs.length with q | q
  ·obtain ⟨b,ts,k1,k2⟩:=g2 i hs[i] (List.getElem?_eq_getElem q)
   obtain ⟨ts',k3⟩:=h2 i hs[i] bs[i] (List.getElem?_eq_getElem q) (List.getElem?_eq_getElem (by omega))
   rw [k1] at k3
   cases k3
   rw [List.getElem?_map,k2,List.getElem?_eq_getElem (by omega)]
   rfl
  ·rw [List.getElem?_eq_none (by omega),List.getElem?_eq_none (by simp;omega)]
 refine ⟨fun D => ?_,⟨fun t ht => ?_,fun t ht=>by simp [rootsO] at ht,fun p hp => ?_⟩,fun D p hp => ?_,gD rfl⟩
 ·show zp (.fn f) bs=_
  simp only [zp,heq,List.map_map]
  rfl
 ·simp only [ai,List.mem_flatMap] at ht
  obtain ⟨p,hp,ht⟩:=ht
  obtain ⟨h,ts,k1,k2⟩:=hall p hp
  rw [k2] at ht
  exact (I.boxFar hX k1).2.2.1 t ht
 ·obtain ⟨h,ts,k1,k2⟩:=hall p hp
  rw [k2]
  exact (I.boxFar hX k1).2.1
 ·obtain ⟨h,ts,k1,k2⟩:=hall p hp
  rw [k2]
  exact ⟨(I.boxFar hX k1).1,fun t ht x hx=>(I.boxFar hX k1).2.2.2 t ht x hx⟩
theorem AOk.ims {w:World} {X:List Nat} {f:FuncId} {caps:List ((Nat×Nat)×List DT)} {y:Value} (h:AOk w X (.fni f caps) y):∀ (i:Nat) (a:DSl) (v:Value),(Am.ims caps)[i]?=some a→(caps.map fun b=>Value.pointer (some ⟨b.1.1,b.1.2,none⟩))[i]?=some v→AOk w X a v:=by
 intro i a v hi hv
 unfold Am.ims at hi
 rw [List.getElem?_map,Option.map_eq_some_iff] at hi hv
 obtain ⟨p,h1,rfl⟩:=hi
 obtain ⟨p',h2,rfl⟩:=hv
 rw [h1] at h2;cases h2
 have hp:=List.mem_of_getElem? h1
 have hm:=h.mem
 refine ⟨fun D=>rfl,⟨fun t ht => ?_,fun t ht=>by simp [rootsO] at ht,hm.2.2 p hp⟩,fun D => ?_,gD rfl⟩
 ·exact hm.1 t (by simp only [ai,List.mem_flatMap];exact ⟨p,hp,by simpa [ai] using ht⟩)
 ·have:=h.kind D p hp
  exact ⟨this.1,this.2⟩
theorem E6 (caps:List ((Nat×Nat)×List DT)):(Am.ims caps).flatMap ownBl=[]:=by
 rw [List.flatMap_eq_nil_iff]
 intro s hs
 obtain ⟨p,_,rfl⟩:=List.mem_map.1 hs
 rfl
theorem Inv.argOf {cx:Cx} {D:DSt} {P:List (DT×Value)} {a:Act} {w:World} (I:Inv cx D P a.tmps w) {X:List Nat} (hX:Out cx D X) {x:Operand} {s:DSl} (e:argOf mkD D x=some s):AOk w X s (a.eval x)∧s.isHome=false:=by
 unfold Am.argOf at e
 split at e
 ·rename_i k b ts off h
  cases e
  have hT:=I.opd h
  have hm:=hT.mem
  have hk:=hT.kind
  refine ⟨⟨fun D=>hT.val,⟨hm.1,fun t ht=>by simp [rootsO] at ht,hm.2.2⟩,fun D => ?_,gD rfl⟩,rfl⟩
  cases k with
  | own=>exact hk.elim
  | far=>exact ⟨I.farX hX hk.1,fun t ht x hx=>I.farX hX (hk.2 t ht x hx)⟩
  | lent h' c' fl =>
   obtain ⟨t',h1,h2,h3,h4⟩:=hk
   obtain ⟨s',g1,g2,g3,g3',g4⟩:=bD h1
   exact ⟨I.out_own hX g2 (g4 h2 _ h3),fun t ht x hx=>I.out_own hX g2 (g4 h2 _ (h4 t ht x hx))⟩
 ·rename_i h off hp
  split at e
  ·rename_i b ts hb
   cases e
   have hT:=I.opd hp
   obtain ⟨b',ts',hb',hy⟩:=hT.val
   rw [hb] at hb';cases hb'
   obtain ⟨g1,g2,g3,g4⟩:=I.boxFar hX hb
   exact ⟨⟨fun D=>hy,⟨fun t ht=>g3 t (by simpa [ai] using ht),fun t ht=>by simp [rootsO] at ht,g2⟩,fun D=>⟨g1,g4⟩,gD rfl⟩,rfl⟩
  ·cases e
 ·rename_i f caps h
  cases e
  have hT:=I.opd h
  refine ⟨⟨fun D=>hT.val,hT.mem,fun D p hp => ?_,gD rfl⟩,rfl⟩
  have:=hT.kind p hp
  exact ⟨I.farX hX this.1,fun t ht x hx=>I.farX hX (this.2 t ht x hx)⟩
 ·cases e
 ·rename_i f hs hx
  rw [Option.map_eq_some_iff] at e
  obtain ⟨caps,h1,rfl⟩:=e
  exact ⟨I.cloArg hX h1 (I.opd hx).val,rfl⟩
 ·rw [Option.bind_eq_some_iff] at e
  obtain ⟨⟨g,ts⟩,h,e⟩:=e
  obtain ⟨ys,G,hv⟩:=I.cellsCopy h
  refine AOk.views G.v G.holds (fun t ht b hb => ?_) hv e
  cases ho:t.isOwn with
  | false=>exact I.out_kind hX (G.kind t ht) ho b hb
  | true =>
   have h1:=G.cnt b
   have h2:0<(ts.flatMap ownR).count b:=List.count_pos_iff.2 (List.mem_flatMap.2 ⟨t,ht,by simp [ownR,ho,hb]⟩)
   rw [bZ] at h1;omega
def ArgsOk (w:World) (X:List Nat) (ad:List DSl) (vs:List Value):Prop :=
 ad.length=vs.length∧(∀ (i:Nat) (a:DSl) (y:Value),ad[i]?=some a→vs[i]?=some y→AOk w X a y)∧∀ b,(ad.flatMap ownBl).count b≤1
theorem ArgsOk.nil (w:World) (X:List Nat):ArgsOk w X [] []:=⟨rfl,fun i a y h=>by simp at h,fun b=>by simp⟩
theorem ArgsOk.consH {w:World} {X:List Nat} {a:DSl} {y:Value} {as:List DSl} {ys:List Value} (h:AOk w X a y) (hc:∀ b,(ownBl a).count b+(as.flatMap ownBl).count b≤1) (g:ArgsOk w X as ys):ArgsOk w X (a::as) (y::ys):=by
 refine ⟨by simp [g.1],fun i a' y' hi hy => ?_,fun b=>by rw [List.flatMap_cons,List.count_append];exact hc b⟩
 cases i with
 | zero=>simp at hi hy;subst hi;subst hy;exact h
 | succ i=>simp at hi hy;exact g.2.1 i a' y' hi (by simpa using hy)
theorem ArgsOk.consN {w:World} {X:List Nat} {a:DSl} {y:Value} {as:List DSl} {ys:List Value} (h:AOk w X a y) (hc:a.isHome=false) (g:ArgsOk w X as ys):ArgsOk w X (a::as) (y::ys) :=
 ArgsOk.consH h (fun b=>by rw [iD hc];simpa using g.2.2 b) g
theorem CQ {ad:List DSl} (h:∀ a∈ad,a.isHome=false):ad.flatMap ownBl=[]:=by
 rw [List.flatMap_eq_nil_iff]
 exact fun a ha=>iD (h a ha)
theorem Inv.argsOf {cx:Cx} {D:DSt} {P:List (DT×Value)} {a:Act} {w:World} (I:Inv cx D P a.tmps w) {X:List Nat} (hX:Out cx D X):∀ {xs:List Operand} {ss:List DSl},argsOf mkD D xs=some ss→ArgsOk w X ss (xs.map a.eval)∧∀ a∈ss,a.isHome=false
 | [],ss,e=>by cases e;exact ⟨ArgsOk.nil w X,fun a h=>by cases h⟩
 | x::xs,ss,e=>by
  simp only [Am.argsOf,Option.bind_eq_some_iff,Option.map_eq_some_iff] at e
  obtain ⟨s,h1,r,h2,rfl⟩:=e
  obtain ⟨g1,g2⟩:=I.argsOf hX h2
  obtain ⟨k1,k2⟩:=I.argOf hX h1
  exact ⟨g1.consN k1 k2,fun a' ha=>by
   rcases List.mem_cons.1 ha with rfl | ha
   ·exact k2
   ·exact g2 a' ha⟩
section
variable {δ β : Type}
def argsIo (M:Mk δ β) (D:St δ β) (s:Sl δ β):Nat→List Operand→Option (List (Sl δ β))
 | _,[]=>none
 | 0,_::xs=>(argsOf M D xs).map fun r=>s::r
 | i+1,x::xs=>(argOf M D x).bind fun a=>(argsIo M D s i xs).map fun r=>a::r
end
def OneHome (s:DSl) (y:Value):Nat→List DSl→List Value→Prop
 | _,[],_=>False
 | _,_::_,[]=>False
 | 0,a::as,v::_=>a=s∧v=y∧∀ a∈as,a.isHome=false
 | i+1,a::as,_::vs=>a.isHome=false∧OneHome s y i as vs
theorem Inv.argsIo {cx:Cx} {D:DSt} {P:List (DT×Value)} {a:Act} {w:World} (I:Inv cx D P a.tmps w) {X:List Nat} (hX:Out cx D X) {s:DSl} {x:Operand} (hs:AOk w X s (a.eval x)) (h1:∀ b,(ownBl s).count b≤1) :
  ∀ {i:Nat} {xs:List Operand} {ss:List DSl},xs[i]?=some x→argsIo mkD D s i xs=some ss→ArgsOk w X ss (xs.map a.eval)∧ss.flatMap ownBl=ownBl s∧OneHome s (a.eval x) i ss (xs.map a.eval)
 | _,[],ss,hx,e=>by simp at hx
 | 0,y::xs,ss,hx,e=>by
  simp only [Am.argsIo,Option.map_eq_some_iff] at e
  obtain ⟨r,h2,rfl⟩:=e
  obtain ⟨g1,g2⟩:=I.argsOf hX h2
  simp at hx;subst hx
  exact ⟨g1.consH hs fun b=>by rw [CQ g2];simpa using h1 b,by rw [List.flatMap_cons,CQ g2,List.append_nil],rfl,rfl,g2⟩
 | i+1,y::xs,ss,hx,e=>by
  simp only [Am.argsIo,Option.bind_eq_some_iff,Option.map_eq_some_iff] at e
  obtain ⟨a',k1,r,h2,rfl⟩:=e
  obtain ⟨g1,g2,g3⟩:=I.argsIo hX hs h1 (by simpa using hx) h2
  obtain ⟨k2,k3⟩:=I.argOf hX k1
  exact ⟨g1.consN k2 k3,by rw [List.flatMap_cons,iD k3,g2];rfl,k3,g3⟩
theorem zy (D:DSt):∀ (hs:List Nat),mw (erD D) hs=(mw D hs).map (List.map fun p=>((),erL p.2))
 | []=>rfl
 | h::hs=>by
  simp only [mw,bE]
  cases D[h]? with
  | none=>rfl
  | some s =>
   cases s with
   | box b ts =>
    simp only [Option.map_some,Sl.er,zy D hs]
    cases mw D hs with
    | none=>rfl
    | some r=>simp only [Option.map_some,List.map_cons,nT]
   | _=>rfl
theorem EN (caps:List ((Nat×Nat)×List DT)):(ims caps).map Sl.er=ims (caps.map fun p=>((),erL p.2)):=by
 unfold ims
 rw [List.map_map,List.map_map]
 rfl
theorem zw (D:DSt) (x:Operand):argOf mkU (erD D) x=(argOf mkD D x).map Sl.er:=by
 simp only [argOf,bR]
 have fin:∀ s:DSl,((cellsCopy mkU (erD D) x).bind fun p=>fm p.1 (p.2.map (T.view .far)))=((cellsCopy mkD D x).bind fun p=>(fm p.1 (p.2.map (T.view .far)):Option DSl)).map Sl.er:=by
  intro s
  rw [gK]
  cases cellsCopy mkD D x with
  | none=>rfl
  | some p=>simp only [Option.map_some,Option.bind_some, ← nT,pR]
 cases hx:opd mkD.nil D x with
 | none=>exact fin .any
 | some s =>
  cases s with
  | pb h off =>
   simp only [Option.map_some,Sl.er,bE]
   cases D[h]? with
   | none=>rfl
   | some s=>cases s<;>first | rfl | simp only [Option.map_some,Sl.er,nT]
  | im k b ts off=>rfl
  | fni f caps=>rfl
  | pe h c st i off=>rfl
  | clo g hs =>
   cases g with
   | arr offs=>exact fin .any
   | fn f =>
    simp only [Option.map_some,Sl.er,zy]
    cases mw D hs with
    | none=>rfl
    | some r=>rfl
  | _=>exact fin .any
theorem sk (D:DSt):∀ (xs:List Operand),argsOf mkU (erD D) xs=(argsOf mkD D xs).map (List.map Sl.er)
 | []=>rfl
 | x::xs=>by
  simp only [argsOf,zw,sk D xs]
  cases argOf mkD D x with
  | none=>rfl
  | some s =>
   simp only [Option.map_some,Option.bind_some]
   cases argsOf mkD D xs with
   | none=>rfl
   | some r=>rfl
theorem xD (D:DSt) (s:DSl):∀ (i:Nat) (xs:List Operand),argsIo mkU (erD D) s.er i xs=(argsIo mkD D s i xs).map (List.map Sl.er)
 | _,[]=>by simp [argsIo]
 | 0,x::xs=>by
  simp only [argsIo,sk]
  cases argsOf mkD D xs with
  | none=>rfl
  | some r=>rfl
 | i+1,x::xs=>by
  simp only [argsIo,zw,xD D s i xs]
  cases argOf mkD D x with
  | none=>rfl
  | some a =>
   simp only [Option.map_some,Option.bind_some]
   cases argsIo mkD D s i xs with
   | none=>rfl
   | some r=>rfl
abbrev URes:=List (Bool×List (T Unit))
abbrev cS:=List (Bool×List DT)
def erR (rd:cS):URes:=rd.map fun r=>(r.1,erL r.2)
theorem qG (a b:cS):erR (a++b)=erR a++erR b:=by simp [erR]
def ca:DSl→List Nat
 | .box b _=>[b.1]
 | _=>[]
theorem GN {a:DSl} (h:a.isHome=false):ca a=[]:=by cases a<;>first | rfl | cases h
theorem He {ad:List DSl} (h:∀ a∈ad,a.isHome=false):ad.flatMap ca=[]:=by
 rw [List.flatMap_eq_nil_iff]
 exact fun a ha=>GN (h a ha)
def ba (rd:cS):List Nat:=rd.flatMap fun r=>r.2.flatMap ownR
theorem jo (a b:cS):ba (a++b)=ba a++ba b:=by simp [ba]
inductive HK where
 | box
 | one
 | agg
 deriving DecidableEq
def ch {δ β:Type}:Sl δ β→Option HK
 | .box _ _=>some .box
 | .one u=>if u.isOwn=true then some .one else none
 | .agg ts=>if ts.any T.isOwn=true then some .agg else none
 | _=>none
theorem sC {a:DSl} (h:a.isHome=false):ch a=none:=by
 cases a with
 | one t=>simp [ch,show t.isOwn=false from h]
 | agg ts=>simp only [ch,show ts.any T.isOwn=false from h];rfl
 | box b ts=>cases h
 | _=>rfl
theorem Gn {a:DSl} (h:ch a=some .box):∃ b ts,a = .box b ts:=by
 cases a with
 | box b ts=>exact ⟨b,ts,rfl⟩
 | one u=>simp only [ch] at h;split at h<;>simp at h
 | agg ts=>simp only [ch] at h;split at h<;>simp at h
 | _=>simp [ch] at h
theorem uG {a:DSl} (h:ch a=some .one):∃ u,a = .one u:=by
 cases a with
 | box b ts=>simp [ch] at h
 | one u=>exact ⟨u,rfl⟩
 | agg ts=>simp only [ch] at h;split at h<;>simp at h
 | _=>simp [ch] at h
theorem Gm {a:DSl} (h:ch a=some .agg):∃ ts,a = .agg ts:=by
 cases a with
 | box b ts=>simp [ch] at h
 | one u=>simp only [ch] at h;split at h<;>simp at h
 | agg ts=>exact ⟨ts,rfl⟩
 | _=>simp [ch] at h
def u7 (w':World) (a:DSl) (y:Value) (o:Bool×List DT):Prop :=
 match a with
 | .box b _=>o.1=true∧Lies w' b o.2∧Free w' b o.2.length
 | .one _=>VPart o y∧o.1=false
 | .agg _=>VPart o y∧o.1=true
 | _=>False
def OutsOk (w':World):List DSl→List Value→cS→Prop
 | [],_,od=>od=[]
 | a::as,y::ys,od=>if (ch a).isSome then ∃ o r,od=o::r∧u7 w' a y o∧OutsOk w' as ys r else OutsOk w' as ys od
 | _::_,[],_=>False
def H3 (rd:cS) (v:Value):Prop:=∃ (d:Dec) (z:Nat) (row:List DT),rd=[(false,[.s .own d z [row],.any])]∧v = .pointer (some ⟨d.b,d.o,none⟩)
structure RetOk (w:World) (X:List Nat) (w':World) (bx:List Nat) (od rd:cS) (v:Value):Prop where
 val:(∃ r,rd=[r]∧VPart r v)∨(rd.length≠1∧VS [] (.tup rd) v)∨H3 rd v
 fine:∀ r∈od++rd,∀ t∈r.2,t.fine=true
 holds:∀ r∈od++rd,∀ t∈r.2,Holds w' t
 own:∀ r∈od++rd,∀ t∈r.2,t.isOwn=true→OwnT w' t
 once:∀ b,(ba (od++rd)).count b+bx.count b≤1
 new:∀ b∈ba (od++rd),(w.heap.size≤b∨b∈X)∧b<w'.heap.size
structure GrewH (X:List Nat) (w w':World):Prop where
 os:w'.os=w.os
 tape:w'.tape=w.tape
 output:w'.output=w.output
 size:w.heap.size≤w'.heap.size
 same:∀ b,b<w.heap.size→b∉X→w'.heap[b]?=w.heap[b]?
theorem Grew.x {w w':World} (g:Grew w w') (X:List Nat):GrewH X w w':=⟨g.os,g.tape,g.output,g.size,fun b h _=>g.same b h⟩
theorem GrewH.grew {w w':World} (g:GrewH [] w w'):Grew w w':=⟨g.os,g.tape,g.output,g.size,fun b h=>g.same b h (by simp)⟩
abbrev Sem1:=FuncId→List (Sl Unit Unit)→Option URes
structure Base where
 n:Nat
 K:World→Prop
 stable:∀ {w w':World},(∀ b,b<n→w'.heap[b]?=w.heap[b]?)→K w→K w'
def Base.ok (B:Base) (w:World) (X:List Nat):Prop:=B.n≤w.heap.size∧(∀ b∈X,B.n≤b)∧B.K w
def B0:Base:=⟨0,fun _=>True,fun _ h=>h⟩
theorem B0.ok (w:World) (X:List Nat):B0.ok w X:=⟨Nat.zero_le _,fun _ _=>Nat.zero_le _,trivial⟩
theorem Base.ok.at {B:Base} {cx:Cx} {D D':DSt} {Pd:List (DT×Value)} {tm:Array Value} {w:World} (h:B.ok cx.w0 cx.X) (I:Inv cx D Pd tm w) {X:List Nat} (hX:Out cx D' X):B.ok w X:=by
 obtain ⟨h1,h2,h3⟩:=h
 refine ⟨Nat.le_trans h1 I.frame.size,fun b hb => ?_,B.stable (fun b hb=>I.frame.same b ⟨Nat.lt_of_lt_of_le hb h1,fun hx=>Nat.not_le_of_lt hb (h2 b hx)⟩) h3⟩
 rcases (hX b hb).1 with h | h
 ·exact Nat.le_trans h1 h
 ·exact h2 b h
def CallsOk (P:Program) (B:Base) (C:Sem1):Prop :=
 ∀ (f:FuncId) (as:List (Sl Unit Unit)) (rs:URes),C f as=some rs→∀ (w:World) (X:List Nat) (ad:List DSl) (vs:List Value),B.ok w X→ad.map Sl.er=as→ArgsOk w X ad vs →
  Calls P f vs.toArray w fun e w'=>∃ v od rd,e = .returned v∧GrewH X w w'∧erR (od++rd)=rs∧OutsOk w' ad vs od∧RetOk w X w' (ad.flatMap ca) od rd v
def fB (P:Program) (B:Base) (C:Sem1) (cx:Cx):Prop:=CallsOk P B C∧B.ok cx.w0 cx.X
theorem OutsOk.none {w':World}:∀ {ad:List DSl} {vs:List Value} {od:cS},(∀ a∈ad,a.isHome=false)→OutsOk w' ad vs od→od=[]
 | [],_,_,_,h=>h
 | a::as,[],_,_,h=>h.elim
 | a::as,y::ys,od,hh,h=>by
  unfold OutsOk at h
  rw [sC (hh a (by simp))] at h
  exact OutsOk.none (fun a' h'=>hh a' (by simp [h'])) h
theorem OutsOk.one {w':World} {s:DSl} {y:Value} (hs:(ch s).isSome=true):∀ {i:Nat} {ad:List DSl} {vs:List Value} {od:cS},OneHome s y i ad vs→OutsOk w' ad vs od→∃ o,od=[o]∧u7 w' s y o
 | i,[],_,_,h,_=>by cases i<;>exact h.elim
 | i,a::as,[],_,h,_=>by cases i<;>exact h.elim
 | 0,a::as,v::vs,od,h,g=>by
  obtain ⟨rfl,rfl,h3⟩:=h
  unfold OutsOk at g
  rw [hs] at g
  obtain ⟨o,r,rfl,g1,g2⟩:=g
  rw [OutsOk.none h3 g2]
  exact ⟨o,rfl,g1⟩
 | i+1,a::as,v::vs,od,h,g=>by
  obtain ⟨h1,h2⟩:=h
  unfold OutsOk at g
  rw [sC h1] at g
  exact OutsOk.one hs h2 g
theorem OneHome.box {s:DSl} {y:Value}:∀ {i:Nat} {ad:List DSl} {vs:List Value},OneHome s y i ad vs→ad.flatMap ca=ca s
 | i,[],_,h=>by cases i<;>exact h.elim
 | i,a::as,[],h=>by cases i<;>exact h.elim
 | 0,a::as,v::vs,h=>by
  obtain ⟨rfl,rfl,h3⟩:=h
  rw [List.flatMap_cons,show as.flatMap ca=[] from He h3,List.append_nil]
 | i+1,a::as,v::vs,h=>by
  rw [List.flatMap_cons,GN h.1,h.2.box];rfl
section
variable {δ β : Type}
def nar (M:Mk δ β) (n:Nat) (s:Sl δ β):Sl δ β :=
 match s with
 | .im k b ts off=>if n≠0∧(off≠0∨n≠ts.length)∧off+n≤ts.length then .im k (M.at_ (M.ptr b) off 1) ((ts.drop off).take n) 0 else .im k b ts off
 | s=>s
def narL (M:Mk δ β):List Nat→List (Sl δ β)→List (Sl δ β)
 | n::ns,s::ss=>nar M n s::narL M ns ss
 | _,ss=>ss
def argsW (M:Mk δ β) (tab:Tab) (f:FuncId) (D:St δ β) (xs:List Operand):Option (List (Sl δ β)):=(argsOf M D xs).map (narL M ((tab.pw.lookup f).getD []))
end
theorem Hy (n:Nat) (s:DSl):nar mkU n s.er=(nar mkD n s).er:=by
 cases s with
 | im k b ts off =>
  simp only [nar,Sl.er,List.length_map]
  split
  ·simp only [Sl.er,erL,List.map_take,List.map_drop]
  ·rfl
 | _=>rfl
theorem CG:∀ (ns:List Nat) (ss:List DSl),narL mkU ns (ss.map Sl.er)=(narL mkD ns ss).map Sl.er
 | [],ss=>by cases ss<;>rfl
 | n::ns,[]=>rfl
 | n::ns,s::ss=>by simp only [List.map_cons,narL,Hy,CG ns ss]
theorem zx (tab:Tab) (f:FuncId) (D:DSt) (xs:List Operand):argsW mkU tab f (erD D) xs=(argsW mkD tab f D xs).map (List.map Sl.er):=by
 unfold argsW
 rw [sk,Option.map_map,Option.map_map]
 congr 1
 funext ss
 exact CG _ ss
theorem AOk.nar {w:World} {X:List Nat} {a:DSl} {y:Value} (n:Nat) (h:AOk w X a y) (hh:a.isHome=false):AOk w X (Am.nar mkD n a) y∧(Am.nar mkD n a).isHome=false:=by
 cases a with
 | im k b ts off =>
  simp only [Am.nar]
  split
  ·rename_i hc
   have hb:(mkD.at_ (mkD.ptr b) off 1)=(b.1,b.2+off):=by simp [mkD]
   rw [hb]
   have hsub:∀ u∈(ts.drop off).take n,u∈ts:=fun u hu=>List.mem_of_mem_drop (List.mem_of_mem_take hu)
   have hm:=h.mem
   refine ⟨⟨fun D => ?_,⟨fun u hu=>hm.1 u (hsub u hu),fun u hu=>by simp [rootsO] at hu,?_⟩,fun D => ?_,gD rfl⟩,rfl⟩
   ·have:=h.val D
    exact this
   ·obtain ⟨c,e,f,q1,q2⟩:=hm.2.2
    refine ⟨c,e,f,q1,fun j u hj => ?_⟩
    have hj':ts[off+j]?=some u:=by
     rw [List.getElem?_take] at hj
     split at hj
     ·rwa [List.getElem?_drop] at hj
     ·cases hj
    obtain ⟨z,z1,z2⟩:=q2 (off+j) u hj'
    exact ⟨z,by simpa [Nat.add_assoc] using z1,z2⟩
   ·have hk:=h.kind D
    cases k with
    | own=>exact hk
    | far=>exact ⟨hk.1,fun u hu=>hk.2 u (hsub u hu)⟩
    | lent h' c fl =>
     obtain ⟨t,q1,q2,q3,q4⟩:=hk
     exact ⟨t,q1,q2,q3,fun u hu=>q4 u (hsub u hu)⟩
  ·exact ⟨h,hh⟩
 | _=>exact ⟨h,hh⟩
theorem ArgsOk.narL {w:World} {X:List Nat}:∀ (ns:List Nat) {ad:List DSl} {vs:List Value},ArgsOk w X ad vs→(∀ s∈ad,s.isHome=false)→ArgsOk w X (Am.narL mkD ns ad) vs∧∀ s∈Am.narL mkD ns ad,s.isHome=false
 | [],ad,vs,h,hh=>by cases ad<;>exact ⟨h,hh⟩
 | n::ns,[],vs,h,hh=>⟨h,hh⟩
 | n::ns,a::as,[],h,hh=>by have:=h.1;simp at this
 | n::ns,a::as,y::ys,h,hh=>by
  have h0:=h.2.1 0 a y rfl rfl
  obtain ⟨k1,k2⟩:=h0.nar n (hh a (by simp))
  have hr:ArgsOk w X as ys:=⟨by simpa using h.1,fun i a' y' q1 q2=>h.2.1 (i+1) a' y' (by simpa using q1) (by simpa using q2),fun b=>by
   have:=h.2.2 b
   rw [List.flatMap_cons,List.count_append] at this
   omega⟩
  obtain ⟨m1,m2⟩:=ArgsOk.narL ns hr fun s hs=>hh s (by simp [hs])
  refine ⟨m1.consN k1 k2,fun s hs => ?_⟩
  rcases List.mem_cons.1 hs with rfl | hs
  ·exact k2
  ·exact m2 s hs
theorem Inv.argsW {cx:Cx} {D:DSt} {P:List (DT×Value)} {a:Act} {w:World} (I:Inv cx D P a.tmps w) {X:List Nat} (hX:Out cx D X) {tab:Tab} {f:FuncId} {xs:List Operand} {ad:List DSl} (e:Am.argsW mkD tab f D xs=some ad) :
  ArgsOk w X ad (xs.map a.eval)∧∀ s∈ad,s.isHome=false:=by
 unfold Am.argsW at e
 rw [Option.map_eq_some_iff] at e
 obtain ⟨ad0,h1,rfl⟩:=e
 obtain ⟨h2,h3⟩:=I.argsOf hX h1
 exact h2.narL _ h3
end Go.Proofs.YtgaiiephdjllkaaGreatDoor.Am
namespace Go.Proofs.YtgaiiephdjllkaaGreatDoor.Am
set_option linter.unusedVariables false
set_option linter.unusedSimpArgs false
open Go
section
variable {δ β : Type}
def nJ (M:Mk δ β):T δ→Option (β×List (T δ))
 | .s .own d z [row]=>if row.all T.fine=true then some (M.at_ d 0 z,row) else none
 | _=>none
def qZ (M:Mk δ β) (r:Bool×List (T δ)):Option (β×List (T δ)) :=
 match r.1,r.2 with
 | false,[t,.any]=>nJ M t
 | _,_=>none
def mC (M:Mk δ β):List (Bool×List (T δ))→Option (Sl δ β)
 | [r]=>match qZ M r with | some (b,row)=>some (.box b row) | none=>fm r.1 r.2
 | rs=>some (.tup rs)
def putRet (M:Mk δ β) (D:St δ β) (dst:Option Nat) (rs:List (Bool×List (T δ))):Option (St δ β) :=
 match dst with
 | none=>some D
 | some t=>if t<D.length then (mC M rs).map fun s=>aL D (some t) s else none
def boolOf (M:Mk δ β) (D:St δ β) (x:Operand):Option Bool :=
 match opd M.nil D x with
 | some (.one (.v (.bool b)))=>some b
 | _=>none
end
theorem qt {cx:Cx} {D:DSt} {t:DT} (h:t.fine=true):bg cx D t:=by
 cases t with
 | v x=>trivial
 | any=>trivial
 | s k d z r=>cases k<;>first | trivial | cases h
theorem Inv.dropP {cx:Cx} {D:DSt} {P:List (DT×Value)} {tm:Array Value} {w:World} (I:Inv cx D P tm w):Inv cx D [] tm w where
 size:=I.size
 val:=I.val
 mem:=I.mem
 kind:=I.kind
 pend:=fun p hp=>by cases hp
 once:=fun b=>by have:=I.once b;rw [bZ];omega
 bnd:=fun b hb=>I.bnd b (by rw [bZ] at hb;omega)
 frame:=I.frame
def PendOf (P:List (DT×Value)) (ts:List DT):Prop:=P.map (·.1)=ts∧∀ p∈P,VT p.1 p.2
theorem PendOf.cnt {P:List (DT×Value)} {ts:List DT} (h:PendOf P ts) (b:Nat):aE P b=(ts.flatMap ownR).count b:=by
 unfold aE
 rw [← h.1,List.flatMap_map]
theorem dX:∀ {ts:List DT},(∀ t∈ts,∃ y,VT t y)→∃ P,PendOf P ts
 | [],_=>⟨[],rfl,fun p hp=>by cases hp⟩
 | t::ts,h=>by
  obtain ⟨y,hy⟩:=h t (by simp)
  obtain ⟨P,h1,h2⟩:=dX (ts:=ts) fun u hu=>h u (by simp [hu])
  refine ⟨(t,y)::P,by simp [h1],fun p hp => ?_⟩
  rcases List.mem_cons.1 hp with rfl | hp
  ·exact hy
  ·exact h2 p hp
theorem VCells.each {ts:List DT} {ys:List Value} (h:VCells ts ys):∀ t∈ts,∃ y,VT t y:=by
 intro t ht
 obtain ⟨i,hi⟩:=List.getElem?_of_mem ht
 have hlt:i<ys.length:=by
  rw [← h.1]
  rcases Nat.lt_or_ge i ts.length with g | g
  ·exact g
  ·rw [List.getElem?_eq_none g] at hi;cases hi
 exact ⟨_,h.2 i t ys[i] hi (List.getElem?_eq_getElem hlt)⟩
theorem VPart.each {r:Bool×List DT} {y:Value} (h:VPart r y):∀ t∈r.2,∃ y,VT t y:=by
 unfold VPart at h
 split at h
 ·obtain ⟨cs,_,h⟩:=h
  exact h.each
 ·obtain ⟨t,h1,h2⟩:=h
  intro u hu
  rw [h1,List.mem_singleton] at hu
  subst hu
  exact ⟨_,h2⟩
theorem mB (rd:cS):ba rd=(rd.flatMap (·.2)).flatMap ownR:=by
 unfold ba
 rw [List.flatMap_assoc]
theorem RetOk.each {w:World} {X:List Nat} {w':World} {bx:List Nat} {od rd:cS} {v:Value} (R:RetOk w X w' bx od rd v):∀ t∈rd.flatMap (·.2),∃ y,VT t y:=by
 intro t ht
 obtain ⟨r,hr,ht⟩:=List.mem_flatMap.1 ht
 rcases R.val with ⟨r',h1,h2⟩ | ⟨_,vs,_,h2,h3⟩ | ⟨d,z,row,h1,_⟩
 ·rw [h1,List.mem_singleton] at hr
  subst hr
  exact h2.each t ht
 rotate_left
 ·rw [h1,List.mem_singleton] at hr
  subst hr
  simp only [List.mem_cons,List.not_mem_nil,or_false] at ht
  rcases ht with rfl | rfl
  ·exact ⟨_,rfl⟩
  ·exact ⟨.bool true,rfl⟩
 ·obtain ⟨i,hi⟩:=List.getElem?_of_mem hr
  have hlt:i<vs.toList.length:=by
   rw [← h2]
   rcases Nat.lt_or_ge i rd.length with g | g
   ·exact g
   ·rw [List.getElem?_eq_none g] at hi;cases hi
  exact (h3 i r vs.toList[i] hi (List.getElem?_eq_getElem hlt)).each t ht
theorem Inv.world {cx:Cx} {D:DSt} {P P':List (DT×Value)} {tm:Array Value} {w w':World} (I:Inv cx D P tm w) {X:List Nat} (hX:Out cx D X) (g:GrewH X w w')
  (hp:∀ p∈P',VT p.1 p.2∧Holds w' p.1∧(p.1.isOwn=true→OwnT w' p.1)∧(p.1.isOwn=false→∀ x∈bl p.1,cx.far x))
  (h1:∀ b,0<aE P' b→aE P' b≤1∧aZ D b=0∧cx.may b∧b<w'.heap.size):Inv cx D P' tm w':=by
 have same:∀ b,(Cx.mk w X).far b→w'.heap[b]?=w.heap[b]?:=fun b h=>g.same b h.1 h.2
 have outO:∀ s∈D,∀ b∈ownBl s,(Cx.mk w X).far b:=fun s hs b hb=>I.out_own hX hs hb
 have outT:∀ s∈D,∀ t∈rootsO s,bg cx D t→∀ b∈bl t,(Cx.mk w X).far b:=by
  intro s hs t ht hk b hb
  cases ho:t.isOwn with
  | false=>exact I.out_kind hX hk ho b hb
  | true =>
   refine outO s hs b ?_
   have:b∈ownR t:=by simp [ownR,ho,hb]
   cases s with
   | one u=>simp [rootsO] at ht;subst ht;exact this
   | agg ts=>exact List.mem_flatMap.2 ⟨t,ht,this⟩
   | box b' ts=>exact List.mem_cons_of_mem _ (List.mem_flatMap.2 ⟨t,ht,this⟩)
   | tup rs =>
    simp only [rootsO,List.mem_flatMap] at ht
    obtain ⟨r,hr,ht⟩:=ht
    exact List.mem_flatMap.2 ⟨r,hr,List.mem_flatMap.2 ⟨t,ht,this⟩⟩
   | _=>simp [rootsO] at ht
 have outIm:∀ (b:Nat) (ts:List DT) (k:Kd),lj cx D k b ts→(Cx.mk w X).far b∧∀ t∈ts,∀ x∈bl t,(Cx.mk w X).far x:=by
  intro b ts k hk
  cases k with
  | own=>exact hk.elim
  | far=>exact ⟨I.farX hX hk.1,fun t ht x hx=>I.farX hX (hk.2 t ht x hx)⟩
  | lent h c fl =>
   obtain ⟨t',q1,q2,q3,q4⟩:=hk
   obtain ⟨s,g1,g2,g3,g3',g4⟩:=bD q1
   exact ⟨outO s g2 _ (g4 q2 _ q3),fun t ht x hx=>outO s g2 _ (g4 q2 _ (q4 t ht x hx))⟩
 have lies:∀ (b:Nat×Nat) (ts:List DT),(Cx.mk w X).far b.1→Lies w b ts→Lies w' b ts:=by
  rintro b ts hf ⟨c,e,f,q1,q2⟩
  exact ⟨c,e,f,by rw [same _ hf];exact q1,q2⟩
 refine ⟨I.size,I.val,fun s hs => ?_,I.kind,hp,fun b => ?_,fun b hb => ?_,?_⟩
 ·have hm:=I.mem s hs
  have hk:=I.kind s hs
  have roots:∀ t∈ai s,∀ b∈bl t,(Cx.mk w X).far b:=by
   intro t ht
   cases s with
   | one u=>exact outT _ hs t ht (hk t ht)
   | agg ts=>exact outT _ hs t ht (hk t ht)
   | box b' ts=>exact outT _ hs t ht (hk t ht)
   | tup rs=>exact outT _ hs t ht (hk t ht)
   | im k b ts off=>exact (outIm _ _ _ hk).2 t ht
   | fni f caps =>
    simp only [ai,List.mem_flatMap] at ht
    obtain ⟨p,hp,ht⟩:=ht
    exact fun x hx=>I.farX hX ((hk p hp).2 t ht x hx)
   | _=>simp [ai] at ht
  refine ⟨fun t ht=>(hm.1 t ht).frame fun b hb _=>same b (roots t ht b hb),fun t ht ho=>(hm.2.1 t ht ho).frame fun b hb _=>same b (outT s hs t ht (by
   cases s with
   | one u=>exact hk t ht
   | agg ts=>exact hk t ht
   | box b' ts=>exact hk t ht
   | tup rs=>exact hk t ht
   | _=>simp [rootsO] at ht) b hb),?_⟩
  cases s with
  | box b ts =>
   have hf:=outO _ hs b.1 (by simp [ownBl])
   refine ⟨lies b ts hf hm.2.2.1,fun c e lo hi hc=>hm.2.2.2 c e lo hi ?_⟩
   rw [← same _ hf];exact hc
  | im k b ts off=>exact lies b ts (outIm _ _ _ hk).1 hm.2.2
  | fni f caps=>exact fun p hp=>lies p.1 p.2 (I.farX hX (hk p hp).1) (hm.2.2 p hp)
  | _=>trivial
 ·have q:=I.once b
  rcases Nat.eq_zero_or_pos (aE P' b) with z | z
  ·omega
  ·have:=h1 b z;omega
 ·rcases Nat.eq_zero_or_pos (aE P' b) with z | z
  ·have:=I.bnd b (by omega)
   exact ⟨this.1,Nat.lt_of_lt_of_le this.2 g.size⟩
  ·exact (h1 b z).2.2
 ·have f:=I.frame
  exact ⟨by rw [g.os,f.os],by rw [g.tape,f.tape],by rw [g.output,f.output],Nat.le_trans f.size g.size,fun b hb=>by rw [g.same b (Nat.lt_of_lt_of_le hb.1 f.size) fun q=>Cx.far_not hb (hX b q).1];exact f.same b hb⟩
theorem RetOk.pend {w:World} {X:List Nat} {w':World} {bx:List Nat} {od rd:cS} {v:Value} (R:RetOk w X w' bx od rd v) {ts:List DT} (hts:∀ t∈ts,∃ r∈od++rd,t∈r.2) {P:List (DT×Value)} (hP:PendOf P ts) (cx:Cx) :
  ∀ p∈P,VT p.1 p.2∧Holds w' p.1∧(p.1.isOwn=true→OwnT w' p.1)∧(p.1.isOwn=false→∀ x∈bl p.1,cx.far x):=by
 intro p hp
 obtain ⟨r,hr,ht⟩:=hts p.1 (by rw [← hP.1];exact List.mem_map.2 ⟨p,hp,rfl⟩)
 refine ⟨hP.2 p hp,R.holds r hr _ ht,R.own r hr _ ht,fun ho x hx => ?_⟩
 rcases pi (R.fine r hr _ ht) with q | q
 ·rw [ho] at q;cases q
 ·rw [q] at hx;cases hx
theorem wM:∀ {ts:List DT},(∀ t∈ts,t.fine=true)→ts.flatMap bl=ts.flatMap ownR
 | [],_=>rfl
 | t::ts,h=>by
  rw [List.flatMap_cons,List.flatMap_cons,wM fun u hu=>h u (by simp [hu])]
  congr 1
  have:=h t (by simp)
  cases t with
  | v x=>simp [ownR,T.isOwn,bl]
  | any=>simp [ownR,T.isOwn,bl]
  | s k d z r=>cases k<;>first | (simp [ownR,T.isOwn];done) | cases this
theorem RetOk.ptr {w:World} {X:List Nat} {w':World} {bx:List Nat} {od rd:cS} {v:Value} (R:RetOk w X w' bx od rd v) {r:Bool×List DT} (hr:rd=[r]) {b:Nat×Nat} {row:List DT} (hp:qZ mkD r=some (b,row)) :
  v = .pointer (some ⟨b.1,b.2,none⟩)∧Lies w' b row∧Free w' b row.length∧(∀ u∈row,Holds w' u∧(u.isOwn=true→OwnT w' u)∧u.fine=true)∧∀ x,(b.1::row.flatMap ownR).count x=(ba rd).count x:=by
 subst hr
 obtain ⟨g,ts⟩:=r
 unfold qZ at hp
 split at hp
 case h_2=>cases hp
 rename_i t hg hts
 simp only at hg hts
 subst hg;subst hts
 unfold nJ at hp
 split at hp
 case h_2=>cases hp
 rename_i d z row'
 split at hp
 case isFalse=>cases hp
 rename_i hf
 cases hp
 have hfine:∀ u∈row,u.fine=true:=fun u hu=>List.all_eq_true.1 hf u hu
 have hv:v = .pointer (some ⟨d.b,d.o,none⟩):=by
  rcases R.val with ⟨r',h1,h2⟩ | ⟨h1,_⟩ | ⟨d',z',row',h1,h2⟩
  ·cases h1
   simp only [VPart,Bool.false_eq_true,if_false] at h2
   obtain ⟨t,ht,_⟩:=h2
   cases ht
  ·exact absurd rfl h1
  ·simp only [List.cons.injEq,Prod.mk.injEq,T.s.injEq,true_and,and_true] at h1
   obtain ⟨rfl,rfl,rfl⟩:=h1
   exact h2
 have hH:=R.holds (false,[.s .own d z [row],.any]) (by simp) (.s .own d z [row]) (by simp)
 have hO:=R.own (false,[.s .own d z [row],.any]) (by simp) (.s .own d z [row]) (by simp) rfl
 have e0:(mkD.at_ d 0 z)=(d.b,d.o):=by simp [mkD]
 rw [e0]
 cases hH with
 | s _ _ _ _ q1 q2 c e f q3 q4 q5 q6 q7 =>
  have hz:=q5 0 row rfl
  cases hO with
  | s _ _ _ p1 p2 c' e' lo hi p3 p4 p5 p6 p7 =>
   refine ⟨hv,⟨c,e,f,q3,fun j t ht => ?_⟩,fun c2 e2 lo2 hi2 hc x h1 h2 => ?_,fun u hu => ?_,fun x => ?_⟩
   ·have:=q6 0 row j t rfl ht
    simpa using this
   ·rw [p3] at hc
    cases hc
    refine p6 x h1 ?_
    have:1*z≤d.cap*z:=Nat.mul_le_mul_right z (by simpa using p4)
    simp only at h2
    omega
   ·obtain ⟨j,hj⟩:=List.getElem?_of_mem hu
    exact ⟨q7 0 row j u rfl hj,fun _=>p7 0 row j u rfl hj,hfine u hu⟩
   ·have:ba ([(false,[.s .own d z [row],.any])]:cS)=d.b::row.flatMap ownR:=by
     simp only [ba,List.flatMap_cons,List.flatMap_nil,List.append_nil,ownR,T.isOwn,if_true,bW,q1]
     simp [← wM hfine]
    rw [this]
theorem Inv.putRetP {cx:Cx} {D D':DSt} {P:List (DT×Value)} {a:Act} {w w':World} (I:Inv cx D P a.tmps w') {X:List Nat} {bx:List Nat} {od rd:cS} {v:Value} (R:RetOk w X w' bx od rd v) (hP:PendOf P (rd.flatMap (·.2))) {dst:Option Nat}
  (e:putRet mkD D dst rd=some D'):Inv cx D' [] (a.put dst v).tmps w':=by
 unfold Am.putRet at e
 split at e
 ·cases e;exact I.dropP
 ·rename_i t
  split at e
  case isFalse=>cases e
  rename_i ht
  rw [Option.map_eq_some_iff] at e
  obtain ⟨s,hs,rfl⟩:=e
  have hall:VS D s v∧(∀ x,(ownBl s).count x≤(ba rd).count x)∧(∀ u∈ai s,Holds w' u∧u.fine=true)∧(∀ u∈rootsO s,u.isOwn=true→OwnT w' u)∧zc w' s∧(∀ k b ts off,s ≠ .im k b ts off)∧(∀ f caps,s ≠ .fni f caps):=by
   have hin:∀ r∈rd,∀ u∈r.2,Holds w' u∧u.fine=true:=fun r hr u hu=>⟨R.holds r (by simp [hr]) u hu,R.fine r (by simp [hr]) u hu⟩
   have hin':∀ r∈rd,∀ u∈r.2,u.isOwn=true→OwnT w' u:=fun r hr u hu ho=>R.own r (by simp [hr]) u hu ho
   unfold mC at hs
   split at hs
   ·rename_i r
    split at hs
    ·rename_i b row hp
     cases hs
     obtain ⟨p1,p2,p3,p4,p5⟩:=R.ptr rfl hp
     exact ⟨p1,fun x=>Nat.le_of_eq (p5 x),fun u hu=>⟨(p4 u hu).1,(p4 u hu).2.2⟩,fun u hu=>(p4 u hu).2.1,⟨p2,p3⟩,by simp,by simp⟩
    ·rename_i hnp
     obtain ⟨gb,ts⟩:=r
     rcases R.val with ⟨r,hr,hv⟩ | ⟨hne,_⟩ | ⟨d,z,row,hr,_⟩
     ·cases hr
      cases gb with
      | true =>
       cases hs
       simp only [VPart,if_true] at hv
       exact ⟨hv,fun x=>by simp [ownBl,ba],fun u hu=>hin _ (List.mem_singleton_self _) u hu,fun u hu=>hin' _ (List.mem_singleton_self _) u hu,trivial,by simp,by simp⟩
      | false =>
       simp only [VPart,Bool.false_eq_true,if_false] at hv
       obtain ⟨t',rfl,h2⟩:=hv
       cases hs
       exact ⟨h2,fun x=>by simp [ownBl,ba],fun u hu=>hin _ (List.mem_singleton_self _) u hu,fun u hu=>hin' _ (List.mem_singleton_self _) u hu,trivial,by simp,by simp⟩
     ·exact absurd rfl hne
     ·cases hr
      cases hs
   ·rename_i hne
    cases hs
    rcases R.val with ⟨r,hr,hv⟩ | ⟨_,hv⟩ | ⟨d,z,row,hr,_⟩
    ·exact absurd hr (hne r)
    ·refine ⟨hv,fun x=>Nat.le_refl _,fun u hu => ?_,fun u hu => ?_,trivial,by simp,by simp⟩
     ·simp only [ai,List.mem_flatMap] at hu
      obtain ⟨r,hr,hu⟩:=hu
      exact hin r hr u hu
     ·simp only [rootsO,List.mem_flatMap] at hu
      obtain ⟨r,hr,hu⟩:=hu
      exact hin' r hr u hu
    ·exact absurd hr (hne _)
  obtain ⟨h1,h2,h3,h4,h5,h6,h7⟩:=hall
  have hk:dm cx D s:=by
   have hr:∀ u∈ai s,bg cx D u:=fun u hu=>qt (h3 u hu).2
   cases s with
   | im k b ts off=>exact absurd rfl (h6 k b ts off)
   | fni f caps=>exact absurd rfl (h7 f caps)
   | _=>exact hr
  refine Inv.put (P:=P) (Q:=[]) (by simpa using I) ht h1 ⟨fun u hu=>(h3 u hu).1,h4,h5⟩ hk ?_
  intro b
  rw [hP.cnt, ← mB];exact h2 b
theorem Inv.putRet {cx:Cx} {D D':DSt} {a:Act} {w w':World} (I:Inv cx D [] a.tmps w) (g:Grew w w') {bx:List Nat} {rd:cS} {v:Value} (R:RetOk w [] w' bx [] rd v) {dst:Option Nat}
  (e:putRet mkD D dst rd=some D'):Inv cx D' [] (a.put dst v).tmps w':=by
 obtain ⟨P,hP⟩:=dX R.each
 have I2:=I.world (Out.nil cx D) (g.x []) (R.pend (fun t ht=>by
  obtain ⟨r,hr,ht⟩:=List.mem_flatMap.1 ht
  exact ⟨r,by simpa using hr,ht⟩) hP cx) (fun b hb=>by
  rw [hP.cnt, ← mB] at hb ⊢
  have h1:=R.once b
  rw [List.nil_append] at h1
  obtain ⟨n1,n2⟩:=R.new b (by rw [List.nil_append];exact List.count_pos_iff.1 hb)
  have n1':w.heap.size≤b:=n1.elim id fun q=>by cases q
  refine ⟨by omega,?_,.inl (Nat.le_trans I.frame.size n1'),n2⟩
  rcases Nat.eq_zero_or_pos (aZ D b) with q | q
  ·exact q
  ·have:=(I.bnd b (by omega)).2;omega)
 exact I2.putRetP R hP e
theorem Dp (t:DT):nJ mkU t.er=(nJ mkD t).map fun p=>((),erL p.2):=by
 cases t with
 | v x=>rfl
 | any=>rfl
 | s k d z rows =>
  rw [au]
  match rows with
  | []=>cases k<;>rfl
  | [row] =>
   cases k with
   | own =>
    simp only [List.map_cons,List.map_nil,nJ]
    rw [show (erL row).all T.fine=row.all T.fine from fL T.fine T.fine l6 row]
    split<;>rfl
   | far=>rfl
   | lent h c fl=>rfl
  | r1::r2::rs=>cases k<;>rfl
theorem Gd (r:Bool×List DT):qZ mkU (r.1,erL r.2)=(qZ mkD r).map fun p=>((),erL p.2):=by
 obtain ⟨g,ts⟩:=r
 cases g with
 | true=>rfl
 | false =>
  match ts with
  | []=>rfl
  | [t]=>rfl
  | [t,u] =>
   cases u with
   | any=>exact Dp t
   | v x=>rfl
   | s k d z r=>simp only [erL,List.map_cons,List.map_nil,au];rfl
  | t::u::v::ts=>cases u<;>rfl
theorem zI (rd:cS):(mC mkU (erR rd):Option (Sl Unit Unit))=(mC mkD rd:Option DSl).map Sl.er:=by
 match rd with
 | []=>rfl
 | [r] =>
  simp only [erR,List.map_cons,List.map_nil,mC]
  rw [Gd]
  cases qZ mkD r with
  | none=>exact pR r.1 r.2
  | some p=>rfl
 | r::r'::rs=>rfl
theorem xF (D:DSt) (dst:Option Nat) (rd:cS):putRet mkU (erD D) dst (erR rd)=(putRet mkD D dst rd).map erD:=by
 cases dst with
 | none=>rfl
 | some t =>
  simp only [putRet,dL]
  split
  ·rw [zI]
   cases (mC mkD rd:Option DSl) with
   | none=>rfl
   | some s=>simp only [Option.map_some,bK]
  ·rfl
theorem EK (D:DSt) (x:Operand):boolOf mkU (erD D) x=boolOf mkD D x:=by
 simp only [boolOf,bR]
 cases opd mkD.nil D x with
 | none=>rfl
 | some s =>
  cases s with
  | one u =>
   cases u with
   | s k d z r=>simp [Sl.er,au]
   | v x=>cases x<;>rfl
   | any=>rfl
  | _=>rfl
theorem Inv.boolOf {cx:Cx} {D:DSt} {P:List (DT×Value)} {a:Act} {w:World} (I:Inv cx D P a.tmps w) {x:Operand} {b:Bool} (e:boolOf mkD D x=some b):a.eval x = .bool b:=by
 unfold Am.boolOf at e
 split at e
 ·rename_i b' h
  cases e
  exact (I.opd h).val.1
 ·cases e
theorem Inv.lose {cx:Cx} {D:DSt} {tm:Array Value} {w:World} (I:Inv cx D [] tm w) {t:Nat} (ht:t<D.length):Inv cx (aL D (some t) .any) [] tm w:=by
 have h:=Inv.put (P:=[]) (Q:=[]) (s := .any) (y:=tm.getD t undef) (by simpa using I) ht trivial ⟨fun u hu=>by simp [ai] at hu,fun u hu=>by simp [rootsO] at hu,trivial⟩
  (fun u hu=>by simp [ai] at hu) (fun b=>by simp [ownBl])
 have hlt:t<tm.size:=by rw [← I.size];exact ht
 have:tm.setIfInBounds t (tm.getD t undef)=tm:=by
  apply Array.ext
  ·simp
  ·intro i h1 h2
   rw [Array.getElem_setIfInBounds]
   split
   ·rename_i e;subst e;simp [Array.getD,hlt]
   ·rfl
 rw [this] at h
 exact h
end Go.Proofs.YtgaiiephdjllkaaGreatDoor.Am
namespace Go.Proofs.YtgaiiephdjllkaaGreatDoor.Am
set_option linter.unusedVariables false
set_option linter.unusedSimpArgs false
open Go
section
variable {δ β : Type}
def T.rootOf:T δ→Option (Nat×Nat)
 | .s (.lent h c true) _ _ _=>some (h,c)
 | _=>none
def kr:Nat→List (T δ)→Option (Nat×Nat×Nat)
 | _,[]=>none
 | j,u::us=>match u.rootOf with | some (h,c)=>some (h,c,j) | none=>kr (j+1) us
def dH:List (T δ)→List (T δ)→List (T δ)
 | t::ts,u::us=>(if t.isOwn=true then t else u)::dH ts us
 | _,_=>[]
def lQ (h:Nat):Nat→List (T δ)→List (T δ)→Bool
 | _,[],[]=>true
 | j,t::ts,u::us=>(if t.isOwn=true then decide (u.rootOf=some (h,j)) else (u.noLent && !u.isOwn))&&lQ h (j+1) ts us
 | _,_,_=>false
def aggNode (D:St δ β) (ts:List (T δ)) (h c j:Nat):Option (Sl δ β×St δ β) :=
 match am D h c with
 | some (.s .own d z rows) =>
  if ((ts.set j .any).all T.noLent=true∧(ts.set j .any).any T.isOwn=false) then (cE (fun _=>some .any) (St.dead (co h c) (qHC h c) D) h c []).map fun D'=>(.agg (ts.set j (.s .own d z rows)),D') else none
 | _=>none
def homeTake (D:St δ β) (x:Operand):Option (Sl δ β×St δ β) :=
 match x with
 | .tmp t =>
  match D[t]? with
  | some (.box b ts)=>if ts.all T.noLent=true then some (.box b ts,aM t D) else none
  | some (.pb h off) =>
   if off=0 then
    match D[h]? with
    | some (.box b ts)=>if ts.all T.noLent=true then some (.box b ts,aM h D) else none
    | _=>none
   else none
  | some (.al h c st lo len) =>
   match cf D h c st with
   | some (.s .own d z rows)=>if lo=0∧len=rows.length then (cE (fun _=>some .any) (St.dead (co h c) (qHC h c) D) h c st).map fun D'=>(.one (.s .own d z rows),D') else none
   | _=>none
  | some (.one u)=>if u.isOwn=true then some (.one u,aM t D) else
   match u.rootOf with
   | some (h,c) =>
    match am D h c with
    | some (.s .own d z rows)=>(cE (fun _=>some .any) (St.dead (co h c) (qHC h c) D) h c []).map fun D'=>(.one (.s .own d z rows),D')
    | _=>none
   | none=>none
  | some (.agg ts)=>if ts.all T.noLent=true then (if ts.any T.isOwn=true then some (.agg ts,aM t D) else none) else
   match kr 0 ts with
   | some (h,c,j) =>
    match D[h]? with
    | some (.box _ bs)=>if lQ h 0 bs ts=true∧bs.all T.noLent=true∧(dH bs ts).any T.isOwn=true then some (.agg (dH bs ts),aM h D) else aggNode D ts h c j
    | _=>aggNode D ts h c j
   | none=>none
  | _=>none
 | _=>none
def iP (rows:List (List (T δ))):T δ→Option (T δ)
 | .s k d z _=>some (.s k d z rows)
 | _=>none
def gC:List (T δ)→List (T δ)→List (T δ)
 | t::ts,u::us=>(if t.isOwn=true then u else t)::gC ts us
 | _,_=>[]
def nodePut (D:St δ β) (h c:Nat) (u:T δ):Option (St δ β) :=
 match am D h c,u with
 | some (.s _ _ z _),.s .own _ z' rows'=>if z'=z then cE (iP rows') (St.dead (co h c) (jL h c) D) h c [] else none
 | _,_=>none
def homePut0 (D D1:St δ β) (x:Operand) (o:Bool×List (T δ)):Option (St δ β) :=
 match x with
 | .tmp t =>
  match D[t]? with
  | some (.box b _)=>some (aL D1 (some t) (.box b o.2))
  | some (.pb h _) =>
   match D[h]? with
   | some (.box b _)=>some (aL D1 (some h) (.box b o.2))
   | _=>none
  | some (.al h c st _ _) =>
   match cf D h c st,o.2 with
   | some (.s _ _ z _),[.s .own _ z' rows']=>if z'=z then cE (iP rows') (St.dead (co h c) (jL h c) D) h c st else none
   | _,_=>none
  | some (.one u) =>
   match o.2 with
   | [.s .own d z rows]=>if u.isOwn=true then some (aL D1 (some t) (.one (.s .own d z rows))) else
    match u.rootOf with
    | some (h,c)=>nodePut D h c (.s .own d z rows)
    | none=>none
   | _=>none
  | some (.agg ts)=>if ts.all T.noLent=true then some (aL D1 (some t) (.agg o.2)) else
   match kr 0 ts with
   | some (h,c,j) =>
    match D[h]? with
    | some (.box b bs)=>if lQ h 0 bs ts=true∧bs.all T.noLent=true∧(dH bs ts).any T.isOwn=true then some (aL D1 (some h) (.box b (gC bs o.2))) else (o.2[j]?).bind (nodePut D h c)
    | _=>(o.2[j]?).bind (nodePut D h c)
   | none=>none
  | _=>none
 | _=>none
end
theorem oJ (t:DT):t.er.rootOf=t.rootOf:=by
 cases t with
 | v x=>rfl
 | any=>rfl
 | s k d z r =>
  rw [au]
  cases k with
  | lent h c fl=>cases fl<;>rfl
  | _=>rfl
theorem sr:∀ (j:Nat) (us:List DT),kr j (erL us)=kr j us
 | _,[]=>rfl
 | j,u::us=>by
  simp only [erL,List.map_cons,kr,oJ]
  cases u.rootOf with
  | some p=>rfl
  | none=>exact sr (j+1) us
theorem wL:∀ (ts us:List DT),erL (dH ts us)=dH (erL ts) (erL us)
 | [],us=>by cases us<;>rfl
 | t::ts,[]=>rfl
 | t::ts,u::us=>by
  have ih:=wL ts us
  simp only [erL,List.map_cons,dH,cu] at ih ⊢
  rw [ih]
  cases t.isOwn<;>rfl
theorem CF:∀ (ts us:List DT),erL (gC ts us)=gC (erL ts) (erL us)
 | [],us=>by cases us<;>rfl
 | t::ts,[]=>rfl
 | t::ts,u::us=>by
  have ih:=CF ts us
  simp only [erL,List.map_cons,gC,cu] at ih ⊢
  rw [ih]
  cases t.isOwn<;>rfl
theorem su (h:Nat):∀ (j:Nat) (ts us:List DT),lQ h j (erL ts) (erL us)=lQ h j ts us
 | _,[],[]=>rfl
 | _,[],u::us=>rfl
 | _,t::ts,[]=>rfl
 | j,t::ts,u::us=>by
  have ih:=su h (j+1) ts us
  simp only [erL,List.map_cons,lQ,cu,oJ,hY] at ih ⊢
  rw [ih]
theorem oH (ts:List DT):(erL ts).any T.isOwn=ts.any T.isOwn:=by
 simp only [erL,List.any_map];congr 1;funext t;exact cu t
theorem jh (ts:List DT):(erL ts).all T.noLent=ts.all T.noLent:=fL T.noLent T.noLent hY ts
theorem xG (ts:List DT) (j:Nat) (u:DT):(erL ts).set j u.er=erL (ts.set j u):=by simp [erL,List.map_set]
theorem zD (D:DSt) (h c:Nat):cE (fun _=>some .any) (St.dead (co h c) (qHC h c) (erD D)) h c []=(cE (fun _=>some .any) (St.dead (co h c) (qHC h c) D) h c []).map erD:=by
 rw [show St.dead (co h c) (qHC h c) (erD D)=erD (St.dead (co h c) (qHC h c) D) from (jg _ _ D).symm,l7 (f:=fun _=>some .any) (fun _=>rfl)]
theorem qI (D:DSt) (ts:List DT) (h c j:Nat):aggNode (erD D) (erL ts) h c j=(aggNode D ts h c j).map fun r=>(r.1.er,erD r.2):=by
 unfold aggNode
 rw [hU]
 cases am D h c with
 | none=>rfl
 | some n =>
  cases n with
  | v x=>rfl
  | any=>rfl
  | s k d z rows =>
   cases k with
   | own =>
    simp only [Option.map_some,au]
    rw [show (erL ts).set j (T.any:T Unit)=erL (ts.set j .any) from xG ts j .any,jh,oH]
    split
    ·rw [zD,Option.map_map,Option.map_map]
     congr 1
     funext D'
     simp only [Function.comp,Sl.er]
     rw [← xG,au]
    ·rfl
   | _=>simp [au]
theorem vr (D:DSt) (h c:Nat) (u:DT):nodePut (erD D) h c u.er=(nodePut D h c u).map erD:=by
 unfold nodePut
 rw [hU]
 cases am D h c with
 | none=>rfl
 | some n =>
  cases n with
  | v x=>rfl
  | any=>rfl
  | s k d z rows =>
   simp only [Option.map_some,au]
   cases u with
   | v x=>rfl
   | any=>rfl
   | s k' d' z' rows' =>
    rw [au]
    cases k' with
    | own =>
     simp only
     split
     ·rw [show St.dead (co h c) (jL h c) (erD D)=erD (St.dead (co h c) (jL h c) D) from (jg _ _ D).symm,l7 (f:=iP rows')]
      intro t
      cases t<;>simp [iP,au,dg,pN]
     ·rfl
    | _=>rfl
theorem BK (D:DSt) (x:Operand):homeTake (erD D) x=(homeTake D x).map fun r=>(r.1.er,erD r.2):=by
 cases x with
 | tmp t =>
  simp only [homeTake,bE]
  cases D[t]? with
  | none=>rfl
  | some s =>
   cases s with
   | box b ts =>
    simp only [Option.map_some,Sl.er]
    rw [fL T.noLent T.noLent hY]
    split
    ·simp only [Option.map_some,gl,Sl.er]
    ·rfl
   | pb h off =>
    simp only [Option.map_some,Sl.er,bE]
    split
    ·cases D[h]? with
     | none=>rfl
     | some s =>
      cases s with
      | box b ts =>
       simp only [Option.map_some,Sl.er]
       rw [fL T.noLent T.noLent hY]
       split
       ·simp only [Option.map_some,gl,Sl.er]
       ·rfl
      | _=>rfl
    ·rfl
   | al h c st lo len =>
    simp only [Option.map_some,Sl.er,mM]
    cases cf D h c st with
    | none=>rfl
    | some n =>
     cases n with
     | v x=>rfl
     | any=>rfl
     | s k d z rows =>
      cases k with
      | own =>
       simp only [Option.map_some,au,List.length_map]
       split
       ·rw [show St.dead (co h c) (qHC h c) (erD D)=erD (St.dead (co h c) (qHC h c) D) from (jg _ _ D).symm,l7 (f:=fun _=>some .any) (fun _=>rfl),Option.map_map,Option.map_map]
        congr 1
        funext D'
        simp [Sl.er,au]
       ·rfl
      | _=>simp [au]
   | one u =>
    simp only [Option.map_some,Sl.er,cu]
    split
    ·simp only [Option.map_some,gl,Sl.er]
    ·rw [oJ]
     cases u.rootOf with
     | none=>rfl
     | some p =>
      obtain ⟨h,c⟩:=p
      simp only [hU]
      cases am D h c with
      | none=>rfl
      | some n =>
       cases n with
       | v x=>rfl
       | any=>rfl
       | s k d z rows =>
        cases k with
        | own =>
         simp only [Option.map_some,au]
         rw [zD,Option.map_map,Option.map_map]
         congr 1
         funext D'
         simp [Sl.er,au]
        | _=>simp [au]
   | agg ts =>
    simp only [Option.map_some,Sl.er]
    rw [jh,oH,sr]
    split
    ·split
     ·simp only [Option.map_some,gl,Sl.er]
     ·rfl
    ·cases kr 0 ts with
     | none=>rfl
     | some p =>
      obtain ⟨h,c,j⟩:=p
      simp only [bE]
      cases D[h]? with
      | none=>exact qI D ts h c j
      | some s =>
       cases s with
       | box b bs =>
        simp only [Option.map_some,Sl.er]
        rw [su,jh, ← wL,oH]
        split
        ·simp only [Option.map_some,gl,Sl.er]
        ·exact qI D ts h c j
       | _=>exact qI D ts h c j
   | _=>rfl
 | _=>rfl
theorem BJ (D D1:DSt) (x:Operand) (o:Bool×List DT):homePut0 (erD D) (erD D1) x (o.1,erL o.2)=(homePut0 D D1 x o).map erD:=by
 cases x with
 | tmp t =>
  simp only [homePut0,bE]
  cases D[t]? with
  | none=>rfl
  | some s =>
   cases s with
   | box b ts=>simp only [Option.map_some,Sl.er,bK]
   | pb h off =>
    simp only [Option.map_some,Sl.er,bE]
    cases D[h]? with
    | none=>rfl
    | some s=>cases s<;>first | rfl | simp only [Option.map_some,Sl.er,bK]
   | al h c st lo len =>
    simp only [Option.map_some,Sl.er,mM]
    cases cf D h c st with
    | none=>rfl
    | some n =>
     cases n with
     | v x=>rfl
     | any=>rfl
     | s k d z rows =>
      simp only [Option.map_some,au]
      obtain ⟨g,us⟩:=o
      match us with
      | []=>rfl
      | [.v x]=>rfl
      | [.any]=>rfl
      | [.s .far d' z' rows']=>simp [au]
      | [.s (.lent _ _ _) d' z' rows']=>simp [au]
      | [.s .own d' z' rows'] =>
       simp only [List.map_cons,List.map_nil,au]
       split
       ·rw [show St.dead (co h c) (jL h c) (erD D)=erD (St.dead (co h c) (jL h c) D) from (jg _ _ D).symm,l7 (f:=iP rows')]
        intro t
        cases t<;>simp [iP,au,dg,pN]
       ·rfl
      | u::u'::us =>
       cases u with
       | v x=>rfl
       | any=>rfl
       | s k d z r=>cases k<;>rfl
   | one u =>
    simp only [Option.map_some,Sl.er]
    obtain ⟨g,us⟩:=o
    match us with
    | []=>rfl
    | [.v x]=>rfl
    | [.any]=>rfl
    | [.s .far d' z' rows']=>simp [au]
    | [.s (.lent _ _ _) d' z' rows']=>simp [au]
    | [.s .own d' z' rows'] =>
     simp only [List.map_cons,List.map_nil,au,cu,oJ]
     split
     ·simp [au,bK,Sl.er]
     ·cases u.rootOf with
      | none=>rfl
      | some p =>
       have:=vr D p.1 p.2 (.s .own d' z' rows')
       rw [au] at this
       exact this
    | u::u'::us =>
     cases u with
     | v x=>rfl
     | any=>rfl
     | s k d z r=>cases k<;>rfl
   | agg ts =>
    simp only [Option.map_some,Sl.er,jh,sr]
    split
    ·simp only [Option.map_some,Sl.er,bK]
    ·have hb:∀ (h c j:Nat),((erL o.2)[j]?).bind (nodePut (erD D) h c)=((o.2[j]?).bind (nodePut D h c)).map erD:=by
      intro h c j
      simp only [erL,List.getElem?_map]
      cases o.2[j]? with
      | none=>rfl
      | some u=>exact vr D h c u
     cases kr 0 ts with
     | none=>rfl
     | some p =>
      obtain ⟨h,c,j⟩:=p
      simp only [bE]
      cases D[h]? with
      | none=>exact hb h c j
      | some s =>
       cases s with
       | box b bs =>
        simp only [Option.map_some,Sl.er]
        rw [su,jh, ← wL,oH]
        split
        ·simp only [Option.map_some,bK,Sl.er,CF]
        ·exact hb h c j
       | _=>exact hb h c j
   | _=>rfl
 | _=>rfl
theorem lu {δ β:Type} (t:Nat) (D:St δ β):(aM t D).length=D.length:=by simp [aM,St.dead]
theorem dq {α:Type} {l:List α} {t:Nat} {x:α} (h:l[t]?=some x):t<l.length:=by
 rcases Nat.lt_or_ge t l.length with g | g
 ·exact g
 ·rw [List.getElem?_eq_none g] at h;cases h
theorem tW {D:DSt} {t:Nat} {s:DSl} (h:D[t]?=some s) (b:Nat):aZ (aM t D) b+(ownBl s).count b=aZ D b:=by
 have hs:(cd t D)[t]?=some (s.clean t):=by
  unfold cd
  rw [List.getElem?_map]
  unfold St.dead
  rw [List.getElem?_map,h]
  rfl
 have h1:=bj ownBl (.any:DSl) b (cd t D) t _ hs
 have h2:(ownBl (.any:DSl)).count b=0:=rfl
 have h3:=vj t D b
 rw [ui] at h1
 have h4:aM t D=(cd t D).set t .any:=rfl
 rw [h4]
 unfold aZ at *
 omega
theorem CU {tm:Array Value} {t:Nat} (ht:t<tm.size):tm.setIfInBounds t (tm.getD t undef)=tm:=by
 apply Array.ext
 ·simp
 ·intro i h1 h2
  rw [Array.getElem_setIfInBounds]
  split
  ·rename_i e;subst e;simp [Array.getD,ht]
  ·rfl
theorem Inv.takeSlot {cx:Cx} {D:DSt} {tm:Array Value} {w:World} (I:Inv cx D [] tm w) {t:Nat} {s:DSl} {y:Value} (hs:D[t]?=some s) (hk:(∃ b ts,s = .box b ts)∨(∃ u,s = .one u)∨∃ ts,s = .agg ts)
  (hl:∀ u∈rootsO s,u.noLent=true) (hv:∀ D,VS D s y):∃ P,Inv cx (aM t D) P tm w∧Out cx (aM t D) (ownBl s)∧AOk w (ownBl s) s y∧∀ b,(ownBl s).count b≤1:=by
 have hmem:=List.mem_of_getElem? hs
 have hm:=I.mem s hmem
 have hkd:=I.kind s hmem
 have hroots:ai s=rootsO s:=by rcases hk with ⟨b,ts,rfl⟩ | ⟨u,rfl⟩ | ⟨ts,rfl⟩<;>rfl
 have heach:∀ u∈rootsO s,∃ y,VT u y:=by
  have hvs:=I.val t s hs
  rcases hk with ⟨b,ts,rfl⟩ | ⟨u,rfl⟩ | ⟨ts,rfl⟩
  ·obtain ⟨c,e,f,h1,h2⟩:=hm.2.2.1
   intro u hu
   obtain ⟨j,hj⟩:=List.getElem?_of_mem hu
   obtain ⟨y,_,hy⟩:=h2 j u hj
   exact ⟨y,hy⟩
  ·intro v hv
   simp [rootsO] at hv;subst hv
   exact ⟨_,hvs⟩
  ·obtain ⟨cs,_,h2⟩:=hvs
   exact h2.each
 obtain ⟨P,hP⟩:=dX heach
 have hown:∀ b,((rootsO s).flatMap ownR).count b≤(ownBl s).count b:=by
  intro b
  rcases hk with ⟨b',ts,rfl⟩ | ⟨u,rfl⟩ | ⟨ts,rfl⟩
  ·simp only [rootsO,ownBl,List.count_cons];omega
  ·simp [rootsO,ownBl]
  ·simp [rootsO,ownBl]
 have hin:∀ p∈P,p.1∈rootsO s:=fun p hp=>by rw [← hP.1];exact List.mem_map.2 ⟨p,hp,rfl⟩
 have IT:=Inv.take I (cs:=P) hs (fun p hp=>⟨hin p hp,hroots ▸ hin p hp,hP.2 p hp⟩) (fun p hp h c fl d z r e=>by
   have:=hl _ (hin p hp)
   rw [e] at this;cases this) (fun b=>by rw [hP.cnt];exact hown b) (by rcases hk with ⟨b',ts,rfl⟩ | ⟨u,rfl⟩ | ⟨ts,rfl⟩<;>simp) (by rcases hk with ⟨b',ts,rfl⟩ | ⟨u,rfl⟩ | ⟨ts,rfl⟩<;>simp)
 rw [List.append_nil] at IT
 have hone:∀ b,(ownBl s).count b≤1:=fun b=>by
  have h1:=tW hs b
  have h2:=I.once b
  rw [bZ] at h2
  omega
 have hX:Out cx (aM t D) (ownBl s):=fun b hb=>by
  have h0:=List.count_pos_iff.2 hb
  have h1:=tW hs b
  have h2:=I.once b
  rw [bZ] at h2
  have h3:=bU hmem hb
  exact ⟨(I.bnd b (by omega)).1,by omega⟩
 refine ⟨P,IT,hX,⟨hv,hm,fun D' => ?_,fun b hb=>⟨hb,(I.bnd b (by have:=bU hmem hb;omega)).2⟩⟩,hone⟩
 have hT:∀ u∈rootsO s,bg cx D u→bg ⟨w,ownBl s⟩ D' u:=by
  intro u hu hk
  have hn:=hl u hu
  cases u with
  | v x=>trivial
  | any=>trivial
  | s k d z r =>
   cases k with
   | own=>trivial
   | lent h c fl=>cases hn
   | far=>exact fun x hx=>IT.farX hX (hk x hx)
 rcases hk with ⟨b',ts,rfl⟩ | ⟨u,rfl⟩ | ⟨ts,rfl⟩
 ·exact fun u hu=>hT u hu (hkd u hu)
 ·exact fun u hu=>hT u hu (hkd u hu)
 ·exact fun u hu=>hT u hu (hkd u hu)
theorem gq {ts:List DT} (h:ts.all T.noLent=true):∀ u∈ts,u.noLent=true:=fun u hu=>List.all_eq_true.1 h u hu
theorem Dec.addr_sp {d:Dec} (h:d.sp=none):d.addr=if d.nil=true then none else some ⟨d.b,d.o,none⟩:=Dec.addr_none h
theorem Inv.alNode {cx:Cx} {D:DSt} {P:List (DT×Value)} {tm:Array Value} {w:World} (I:Inv cx D P tm w) {t h c:Nat} {st:List (Nat×Nat)} {d:Dec} {z:Nat} {rows:List (List DT)} (hD:D[t]?=some (.al h c st 0 rows.length)) (hn:cf D h c st=some (.s .own d z rows)) :
  ∃ u,am D h c=some u∧u.isOwn=true∧getN u st=some (.s .own d z rows)∧Holds w (.s .own d z rows)∧OwnT w (.s .own d z rows)∧VT (.s .own d z rows:DT) (tm.getD t undef):=by
 obtain ⟨d',z',n,ad,hnode,hle,hy,ha,ha0⟩:=I.val t _ hD
 obtain ⟨t0,k1,rows1,g1,g2,g3,g4,g5,g6⟩:=I.node hnode
 simp only [cf,g1,Option.bind_some] at hn
 rw [g3] at hn;cases hn
 refine ⟨t0,g1,g2,g3,g5,g6,?_⟩
 show tm.getD t undef=_
 rw [hy,Nat.sub_zero,ha0 rfl,Dec.addr_sp g6.sp]
theorem Inv.nodeTake {cx:Cx} {D:DSt} {tm:Array Value} {w:World} (I:Inv cx D [] tm w) {h c:Nat} {d:Dec} {z:Nat} {rows:List (List DT)} (g1:am D h c=some (.s .own d z rows)) {D1:DSt}
  (e:cE (fun _=>some .any) (St.dead (co h c) (qHC h c) D) h c []=some D1) :
  ∃ P,Inv cx D1 P tm w∧Out cx D1 (bl (.s .own d z rows))∧(∀ b,(bl (.s .own d z rows)).count b≤1)∧(∀ b∈bl (.s .own d z rows),b<w.heap.size)∧Holds w (.s .own d z rows)∧OwnT w (.s .own d z rows):=by
 have I1:=I.dead (co h c) (qHC h c)
 have g1':=eW (p:=co h c) (q:=qHC h c) g1 rfl
 unfold cE at e
 rw [g1',Option.bind_some] at e
 simp only [eg,Option.bind_some] at e
 obtain ⟨s0,hs0,hs0m,hr0,hr0',hb0⟩:=bD g1
 have hm0:=I.mem s0 hs0m
 have g5:=hm0.1 _ hr0
 have g6:=hm0.2.1 _ hr0' rfl
 have hone:=I.bl_once g1 rfl
 have hsub:∀ b∈bl (.s .own d z rows),0<aZ D b:=fun b hb=>bU hs0m (hb0 rfl b hb)
 have hlt:∀ b∈bl (.s .own d z rows),b<w.heap.size:=fun b hb=>(I.bnd b (by have:=hsub b hb;omega)).2
 have hown:ownR (.s .own d z rows:DT)=bl (.s .own d z rows):=by simp [ownR,T.isOwn]
 have IU:=I1.upd (P':=[(.s .own d z rows,.slice d.addr rows.length d.cap)]) (w':=w) e
  {at_:=g1',own:=rfl,holds := .any,ownT:=fun h=>(by cases h),kind := .inr rfl,val:=fun _ h=>h.one,
   cnt:=fun b=>by
    rw [hJ,bZ,hown]
    have h0:(ownR (.any:DT)).count b=0:=rfl
    split
    ·omega
    ·have:=hone b;omega,
   new:=fun b hb hpos=>by
    exfalso
    rw [hJ,bZ,hown] at hpos
    have h0:(ownR (.any:DT)).count b=0:=rfl
    have:=hlt b (List.count_pos_iff.1 (by omega))
    omega,
   hides:=fun s hs=>(np s hs).1,
   speak:=fun s hs st hsp=>absurd hsp ((np s hs).2 st),
   size:=Nat.le_refl _,same:=fun _ _ _=>rfl,os:=rfl,tape:=rfl,output:=rfl,
   pend:=fun p hp=>by
    rw [List.mem_singleton] at hp;subst hp
    exact ⟨rfl,g5,fun _=>g6,fun h=>by cases h⟩ }
 refine ⟨_,IU,fun b hb => ?_,hone,hlt,g5,g6⟩
 have q1:=IU.once b
 rw [hJ,bZ,hown] at q1
 have q2:=List.count_pos_iff.2 hb
 exact ⟨(IU.bnd b (by rw [hJ,bZ,hown];omega)).1,by omega⟩
theorem Inv.root {cx:Cx} {D:DSt} {u:DT} {h c:Nat} {y:Value} (hr:u.rootOf=some (h,c)) (hk:bg cx D u) (hv:VT u y):∃ d z rows,am D h c=some (.s .own d z rows)∧y = .slice d.addr rows.length d.cap:=by
 cases u with
 | v x=>cases hr
 | any=>cases hr
 | s k d z r =>
  cases k with
  | lent h' c' fl =>
   cases fl with
   | false=>cases hr
   | true =>
    cases hr
    obtain ⟨t,g1,g2,g3,g4⟩:=hk
    obtain ⟨z',rows',rfl,hl⟩:=g4 rfl
    exact ⟨d,z',rows',g1,by rw [hl];exact hv⟩
  | _=>cases hr
theorem pz:∀ {j:Nat} {us:List DT} {h c i:Nat},kr j us=some (h,c,i)→∃ u,j≤i∧us[i-j]?=some u∧u.rootOf=some (h,c)
 | j,[],h,c,i,e=>by cases e
 | j,u::us,h,c,i,e=>by
  unfold kr at e
  cases hu:u.rootOf with
  | some p =>
   rw [hu] at e
   cases e
   exact ⟨u,Nat.le_refl _,by simp,hu⟩
  | none =>
   rw [hu] at e
   obtain ⟨v,h1,h2,h3⟩:=pz e
   refine ⟨v,by omega,?_,h3⟩
   rw [show i-j=(i-(j+1))+1 by omega]
   simpa using h2
theorem wb {h:Nat}:∀ {j:Nat} {ts us:List DT},lQ h j ts us=true→ts.length=us.length∧∀ (i:Nat) (t u:DT),ts[i]?=some t→us[i]?=some u →
  (t.isOwn=true→u.rootOf=some (h,j+i))∧(t.isOwn=false→u.noLent=true∧u.isOwn=false)
 | _,[],[],_=>⟨rfl,fun i t u h=>by simp at h⟩
 | _,[],u::us,e=>by cases e
 | _,t::ts,[],e=>by cases e
 | j,t::ts,u::us,e=>by
  unfold lQ at e
  rw [Bool.and_eq_true] at e
  obtain ⟨e1,e2⟩:=e
  obtain ⟨h1,h2⟩:=wb e2
  refine ⟨by simp [h1],fun i t' u' hi hu => ?_⟩
  cases i with
  | zero =>
   simp at hi hu;subst hi;subst hu
   split at e1
   ·rename_i ho
    exact ⟨fun _=>by simpa using e1,fun q=>by rw [ho] at q;cases q⟩
   ·rename_i ho
    refine ⟨fun q=>absurd q ho,fun _ => ?_⟩
    rw [Bool.and_eq_true] at e1
    exact ⟨e1.1,by simpa using e1.2⟩
  | succ i =>
   have:=h2 i t' u' (by simpa using hi) (by simpa using hu)
   rw [show j+(i+1)=j+1+i by omega]
   exact this
theorem uO:∀ {ts us:List DT} {i:Nat} {x:DT},(dH ts us)[i]?=some x→∃ t u,ts[i]?=some t∧us[i]?=some u∧x=if t.isOwn=true then t else u
 | [],us,i,x,e=>by cases us<;>simp [dH] at e
 | t::ts,[],i,x,e=>by simp [dH] at e
 | t::ts,u::us,0,x,e=>by simp only [dH,List.getElem?_cons_zero,Option.some.injEq] at e;exact ⟨t,u,rfl,rfl,e.symm⟩
 | t::ts,u::us,i+1,x,e=>by
  simp only [dH,List.getElem?_cons_succ] at e
  obtain ⟨t',u',h1,h2,h3⟩:=uO e
  exact ⟨t',u',by simpa using h1,by simpa using h2,h3⟩
theorem Au:∀ {ts us:List DT},ts.length=us.length→(dH ts us).length=ts.length
 | [],[],_=>rfl
 | [],u::us,h=>by simp at h
 | t::ts,[],h=>by simp at h
 | t::ts,u::us,h=>by simp only [dH,List.length_cons];rw [Au (by simpa using h)]
theorem Av:∀ {ts us:List DT},(∀ (i:Nat) (t u:DT),ts[i]?=some t→us[i]?=some u→t.isOwn=false→u.isOwn=false)→∀ b,((dH ts us).flatMap ownR).count b≤(ts.flatMap ownR).count b
 | [],us,_,b=>by cases us<;>simp [dH]
 | t::ts,[],_,b=>by simp [dH]
 | t::ts,u::us,h,b=>by
  have ih:=Av (ts:=ts) (us:=us) (fun i t u h1 h2=>h (i+1) t u (by simpa using h1) (by simpa using h2)) b
  simp only [dH,List.flatMap_cons,List.count_append]
  cases ho:t.isOwn with
  | true=>rw [if_pos rfl];omega
  | false =>
   rw [if_neg Bool.false_ne_true,dI (h 0 t u rfl rfl ho),dI ho]
   simpa using ih
theorem uP:∀ {ts us:List DT} {i:Nat} {x:DT},(gC ts us)[i]?=some x→∃ t u,ts[i]?=some t∧us[i]?=some u∧x=if t.isOwn=true then u else t
 | [],us,i,x,e=>by cases us<;>simp [gC] at e
 | t::ts,[],i,x,e=>by simp [gC] at e
 | t::ts,u::us,0,x,e=>by simp only [gC,List.getElem?_cons_zero,Option.some.injEq] at e;exact ⟨t,u,rfl,rfl,e.symm⟩
 | t::ts,u::us,i+1,x,e=>by
  simp only [gC,List.getElem?_cons_succ] at e
  obtain ⟨t',u',h1,h2,h3⟩:=uP e
  exact ⟨t',u',by simpa using h1,by simpa using h2,h3⟩
theorem Aw:∀ {ts us:List DT} (b:Nat),((gC ts us).flatMap ownR).count b≤(us.flatMap ownR).count b
 | [],us,b=>by cases us<;>simp [gC]
 | t::ts,[],b=>by simp [gC]
 | t::ts,u::us,b=>by
  have ih:=Aw (ts:=ts) (us:=us) b
  simp only [gC,List.flatMap_cons,List.count_append]
  cases ho:t.isOwn with
  | true=>rw [if_pos rfl];omega
  | false=>rw [if_neg Bool.false_ne_true,dI ho];simp;omega
theorem vw {u:DT} (h:u.noLent=true):u.isOwn=true∨bl u=[]∨∃ d z r,u = .s .far d z r:=by
 cases u with
 | v x=>exact .inr (.inl (by simp [bl]))
 | any=>exact .inr (.inl (by simp [bl]))
 | s k d z r=>cases k<;>first | exact .inl rfl | exact .inr (.inr ⟨_,_,_,rfl⟩) | cases h
theorem xt {cx:Cx} {D D':DSt} {w:World} {X:List Nat} {u:DT} (hn:u.noLent=true) (hk:bg cx D u) (hf:∀ b,cx.far b→(Cx.mk w X).far b):bg ⟨w,X⟩ D' u:=by
 cases u with
 | v x=>trivial
 | any=>trivial
 | s k d z r =>
  cases k with
  | own=>trivial
  | lent h c fl=>cases hn
  | far=>exact fun x hx=>hf x (hk x hx)
theorem Inv.aggNode {cx:Cx} {D:DSt} {a:Act} {w:World} (I:Inv cx D [] a.tmps w) {t:Nat} {ts:List DT} (hD:D[t]?=some (.agg ts)) {h c j:Nat} {u:DT} (hj:ts[j]?=some u) (hr:u.rootOf=some (h,c)) {s:DSl} {D1:DSt}
  (e:Am.aggNode D ts h c j=some (s,D1)):∃ d z rows,am D h c=some (.s .own d z rows)∧s = .agg (ts.set j (.s .own d z rows))∧ownBl s=bl (.s .own d z rows) ∧
   ∃ P,Inv cx D1 P a.tmps w∧Out cx D1 (ownBl s)∧AOk w (ownBl s) s (a.eval (.tmp t))∧(∀ b,(ownBl s).count b≤1)∧(ch s).isSome=true∧OwnT w (.s .own d z rows):=by
 obtain ⟨cs,hy,hvc⟩:=I.val t _ hD
 have hmem:=List.mem_of_getElem? hD
 have hm:=I.mem _ hmem
 have hkd:=I.kind _ hmem
 have hlt:j<ts.length:=dq hj
 have hltc:j<cs.toList.length:=by rw [← hvc.1];exact hlt
 have hvj:=hvc.2 j u _ hj (List.getElem?_eq_getElem hltc)
 obtain ⟨d,z,rows,g1,g2⟩:=Inv.root hr (hkd u (List.mem_of_getElem? hj)) hvj
 unfold Am.aggNode at e
 rw [g1] at e
 simp only at e
 split at e
 case isFalse=>cases e
 rename_i hcond
 rw [Option.map_eq_some_iff] at e
 obtain ⟨D',e1,e2⟩:=e
 cases e2
 obtain ⟨P,n1,n2,n3,n4,n5,n6⟩:=I.nodeTake g1 e1
 have hno:∀ v∈ts.set j .any,v.isOwn=false:=by
  have:=hcond.2
  rw [List.any_eq_false] at this
  intro v hv
  have:=this v hv
  simpa using this
 have hcnt:∀ b,((ts.set j (.s .own d z rows)).flatMap ownR).count b=(bl (.s .own d z rows)).count b:=by
  intro b
  have q:=bj ownR (.s .own d z rows:DT) b ts j u hj
  have q2:=bj ownR (.any:DT) b ts j u hj
  have q3:((ts.set j .any).flatMap ownR)=[]:=by
   rw [List.flatMap_eq_nil_iff];exact fun v hv=>dI (hno v hv)
  have q4:(ownR (.any:DT)).count b=0:=rfl
  have q5:ownR (.s .own d z rows:DT)=bl (.s .own d z rows):=by simp [ownR,T.isOwn]
  rw [q3] at q2
  rw [q5] at q
  simp only [List.count_nil] at q2
  omega
 have hset:∀ (i:Nat) (v:DT),(ts.set j (.s .own d z rows))[i]?=some v→(i=j∧v = .s .own d z rows)∨(i≠j∧ts[i]?=some v∧v∈ts.set j .any):=by
  intro i v hi
  by_cases q:i=j
  ·subst q
   rw [List.getElem?_set_self hlt] at hi
   cases hi
   exact .inl ⟨rfl,rfl⟩
  ·rw [List.getElem?_set_ne (fun q'=>q q'.symm)] at hi
   exact .inr ⟨q,hi,List.mem_of_getElem? (i:=i) (by rw [List.getElem?_set_ne (fun q'=>q q'.symm)];exact hi)⟩
 have hbl:∀ b,b∈ownBl (.agg (ts.set j (.s .own d z rows)))↔b∈bl (.s .own d z rows):=fun b=>by
  rw [← List.count_pos_iff, ← List.count_pos_iff]
  show 0<((ts.set j (.s .own d z rows)).flatMap ownR).count b↔_
  rw [hcnt]
 have hbl2:ownBl (.agg (ts.set j (.s .own d z rows)))=bl (.s .own d z rows):=by
  show (ts.set j (.s .own d z rows)).flatMap ownR=_
  have key:∀ (l:List DT) (i:Nat),i<l.length→(∀ v∈l.set i .any,v.isOwn=false)→(l.set i (.s .own d z rows)).flatMap ownR=bl (.s .own d z rows):=by
   intro l
   induction l with
   | nil=>intro i hi;simp at hi
   | cons x l ih =>
    intro i hi hv
    cases i with
    | zero =>
     simp only [List.set_cons_zero,List.flatMap_cons]
     have:l.flatMap ownR=[]:=by
      rw [List.flatMap_eq_nil_iff];exact fun v hv'=>dI (hv v (by simp [hv']))
     rw [this];simp [ownR,T.isOwn]
    | succ i =>
     simp only [List.set_cons_succ,List.flatMap_cons]
     rw [dI (hv x (by simp)),ih i (by simpa using hi) (fun v hv'=>hv v (by simp [hv']))]
     rfl
  exact key ts j hlt hno
 refine ⟨d,z,rows,g1,rfl,hbl2,P,n1,?_,?_,?_,?_,n6⟩
 ·rw [hbl2];exact n2
 ·rw [hbl2]
  refine ⟨fun _=>⟨cs,hy,⟨by rw [List.length_set];exact hvc.1,fun i v y' hi hy' => ?_⟩⟩,⟨fun v hv => ?_,fun v hv ho => ?_,trivial⟩,fun D' v hv => ?_,fun b hb => ?_⟩
  ·rcases hset i v hi with ⟨rfl,rfl⟩ | ⟨_,q,_⟩
   ·rw [List.getElem?_eq_getElem hltc] at hy'
    cases hy'
    exact g2
   ·exact hvc.2 i v y' q hy'
  ·obtain ⟨i,hi⟩:=List.getElem?_of_mem hv
   rcases hset i v hi with ⟨rfl,rfl⟩ | ⟨_,q,_⟩
   ·exact n5
   ·exact hm.1 v (List.mem_of_getElem? q)
  ·obtain ⟨i,hi⟩:=List.getElem?_of_mem hv
   rcases hset i v hi with ⟨rfl,rfl⟩ | ⟨_,q,q2⟩
   ·exact n6
   ·rw [hno v q2] at ho;cases ho
  ·obtain ⟨i,hi⟩:=List.getElem?_of_mem hv
   rcases hset i v hi with ⟨rfl,rfl⟩ | ⟨_,q,q2⟩
   ·trivial
   ·exact xt (gq hcond.1 v q2) (hkd v (List.mem_of_getElem? q)) fun b hb=>n1.farX n2 hb
  ·rw [hbl2] at hb
   exact ⟨hb,n4 b hb⟩
 ·intro b;rw [hbl2];exact n3 b
 ·simp only [ch]
  rw [if_pos]
  ·rfl
  ·rw [List.any_eq_true]
   exact ⟨_,List.mem_set hlt _,rfl⟩
theorem Inv.boxAgg {cx:Cx} {D:DSt} {a:Act} {w:World} (I:Inv cx D [] a.tmps w) {t h:Nat} {ts bs:List DT} {b:Nat×Nat} (hD:D[t]?=some (.agg ts)) (hb:D[h]?=some (.box b bs)) (hr:lQ h 0 bs ts=true) (hl:bs.all T.noLent=true) :
  ∃ P,Inv cx (aM h D) P a.tmps w∧Out cx (aM h D) (ownBl (.agg (dH bs ts)))∧AOk w (ownBl (.agg (dH bs ts))) (.agg (dH bs ts)) (a.eval (.tmp t))∧(∀ x,(ownBl (.agg (dH bs ts))).count x≤1) ∧
   (Out cx (aM h D) (ownBl (.box b bs))∧b.1∉ownBl (.agg (dH bs ts))∧b.1<w.heap.size)∧∀ cs:Array Value,a.eval (.tmp t) = .agg cs→∀ (i:Nat) (x:DT) (y:Value),bs[i]?=some x→x.isOwn=true→cs.toList[i]?=some y→VT x y:=by
 obtain ⟨cs,hy,hvc⟩:=I.val t _ hD
 have hmem:=List.mem_of_getElem? hD
 have hm:=I.mem _ hmem
 have hkd:=I.kind _ hmem
 obtain ⟨P,h1,h2,h3,h4⟩:=I.takeSlot hb (.inl ⟨b,bs,rfl⟩) (gq hl) (y := .pointer (some ⟨b.1,b.2,none⟩)) (fun _=>rfl)
 obtain ⟨hlen,hroots⟩:=wb hr
 have hcnt:=Av (ts:=bs) (us:=ts) (fun i t u q1 q2 q3=>((hroots i t u q1 q2).2 q3).2)
 have hsub:∀ x∈ownBl (.agg (dH bs ts)),x∈ownBl (.box b bs):=fun x hx=>by
  have q:=hcnt x
  have q2:=List.count_pos_iff.2 (show x∈(dH bs ts).flatMap ownR from hx)
  exact List.mem_cons_of_mem _ (List.count_pos_iff.1 (by omega))
 have hX:Out cx (aM h D) (ownBl (.agg (dH bs ts))):=fun x hx=>h2 x (hsub x hx)
 have hval:∀ (i:Nat) (x:DT) (y:Value),bs[i]?=some x→x.isOwn=true→cs.toList[i]?=some y→VT x y:=by
  intro i x y hi ho hcy
  have hlt:i<ts.length:=by rw [← hlen];exact dq hi
  have hu:=List.getElem?_eq_getElem hlt
  have hro:=(hroots i x _ hi hu).1 ho
  obtain ⟨d,z,rows,g1,g2⟩:=Inv.root hro (hkd _ (List.mem_of_getElem? hu)) (hvc.2 i _ y hu hcy)
  have:am D h (0+i)=some x:=by rw [Nat.zero_add];unfold am;rw [hb];exact hi
  rw [this] at g1
  cases g1
  exact g2
 have hmix:∀ x∈dH bs ts,(x∈bs∧x.isOwn=true)∨(x∈ts∧x.noLent=true∧x.isOwn=false):=by
  intro x hx
  obtain ⟨i,hi⟩:=List.getElem?_of_mem hx
  obtain ⟨t',u',q1,q2,q3⟩:=uO hi
  cases ho:t'.isOwn with
  | true=>rw [ho,if_pos rfl] at q3;subst q3;exact .inl ⟨List.mem_of_getElem? q1,ho⟩
  | false =>
   rw [ho,if_neg Bool.false_ne_true] at q3;subst q3
   have:=(hroots i t' x q1 q2).2 ho
   exact .inr ⟨List.mem_of_getElem? q2,this.1,this.2⟩
 have hone:∀ x,(ownBl (.agg (dH bs ts))).count x≤1:=fun x=>by
  have q:=hcnt x
  have q2:=h4 x
  have q3:(ownBl (.box b bs)).count x=(if b.1=x then 1 else 0)+(bs.flatMap ownR).count x:=by
   simp only [ownBl,List.count_cons,beq_iff_eq]
   omega
  show ((dH bs ts).flatMap ownR).count x≤1
  omega
 have hbn:b.1∉ownBl (.agg (dH bs ts)):=fun hx=>by
  have q:=hcnt b.1
  have q1:=List.count_pos_iff.2 (show b.1∈(dH bs ts).flatMap ownR from hx)
  have q2:=h4 b.1
  have q3:(ownBl (.box b bs)).count b.1=1+(bs.flatMap ownR).count b.1:=by
   simp only [ownBl,List.count_cons_self];omega
  omega
 refine ⟨P,h1,hX,⟨fun _=>⟨cs,hy,⟨by rw [Au hlen,hlen];exact hvc.1,fun i x y hi hcy => ?_⟩⟩,⟨fun x hx => ?_,fun x hx ho => ?_,trivial⟩,fun D' x hx => ?_,fun x hx=>⟨hx,(h3.own x (hsub x hx)).2⟩⟩,hone,⟨h2,hbn,(h3.own b.1 (by simp [ownBl])).2⟩,fun cs' hcs' => ?_⟩
 ·obtain ⟨t',u',q1,q2,q3⟩:=uO hi
  cases ho:t'.isOwn with
  | true=>rw [ho,if_pos rfl] at q3;subst q3;exact hval i x y q1 ho hcy
  | false=>rw [ho,if_neg Bool.false_ne_true] at q3;subst q3;exact hvc.2 i x y q2 hcy
 ·rcases hmix x hx with ⟨q,_⟩ | ⟨q,_⟩
  ·exact h3.mem.1 x q
  ·exact hm.1 x q
 ·rcases hmix x hx with ⟨q,_⟩ | ⟨q,_,q2⟩
  ·exact h3.mem.2.1 x q ho
  ·rw [q2] at ho;cases ho
 ·rcases hmix x hx with ⟨q,q2⟩ | ⟨q,q2,_⟩
  ·cases x with
   | v y=>trivial
   | any=>trivial
   | s k d z r=>cases k<;>first | trivial | cases q2
  ·exact xt q2 (hkd x q) fun b hb=>h1.farX hX hb
 ·have:cs'=cs:=by
   have hh:a.eval (.tmp t) = .agg cs:=hy
   rw [hh] at hcs'
   cases hcs';rfl
  subst this
  exact hval
theorem Inv.homeTake {cx:Cx} {D:DSt} {a:Act} {w:World} (I:Inv cx D [] a.tmps w) {x:Operand} {s:DSl} {D1:DSt} (e:Am.homeTake D x=some (s,D1)) :
  ∃ P,Inv cx D1 P a.tmps w∧Out cx D1 (ownBl s)∧AOk w (ownBl s) s (a.eval x)∧(∀ b,(ownBl s).count b≤1)∧(ch s).isSome=true:=by
 cases x with
 | tmp t =>
  simp only [Am.homeTake] at e
  split at e
  ·rename_i b ts hD
   split at e
   case isFalse=>cases e
   rename_i hl
   cases e
   obtain ⟨P,h1,h2,h3,h4⟩:=I.takeSlot hD (.inl ⟨b,ts,rfl⟩) (gq hl) (fun _=>I.val t _ hD)
   exact ⟨P,h1,h2,h3,h4,rfl⟩
  ·rename_i h off hD
   split at e
   case isFalse=>cases e
   rename_i hoff
   subst hoff
   split at e
   case h_2=>cases e
   rename_i b ts hb
   split at e
   case isFalse=>cases e
   rename_i hl
   cases e
   obtain ⟨b',ts',hb',hy⟩:=I.val t _ hD
   rw [hb] at hb';cases hb'
   obtain ⟨P,h1,h2,h3,h4⟩:=I.takeSlot hb (.inl ⟨b,ts,rfl⟩) (gq hl) (y:=a.eval (.tmp t)) (fun _=>hy)
   exact ⟨P,h1,h2,h3,h4,rfl⟩
  ·rename_i h c st lo len hD
   split at e
   case h_2=>cases e
   rename_i d z rows hn
   split at e
   case isFalse=>cases e
   rename_i hc
   obtain ⟨rfl,rfl⟩:=hc
   rw [Option.map_eq_some_iff] at e
   obtain ⟨D2,hD2,e⟩:=e
   cases e
   have hct:Am.cellsTake mkD D (.tmp t)=some (false,[.s .own d z rows],D1):=by
    simp only [Am.cellsTake,hD,hn]
    rw [if_pos (Or.inl trivial),hD2]
    simp [mkD]
   obtain ⟨ys,P,h1,h2,h3⟩:=I.cellsTake hct
   have hys:ys=[a.eval (.tmp t)]:=by simpa [bI] using h3
   subst hys
   have hcnt:∀ b,(ownR (.s .own d z rows:DT)).count b≤aE P b:=fun b=>by simpa using h2.cnt b
   have hX:Out cx D1 (ownBl (.one (.s .own d z rows))):=fun b hb=>by
    have q1:=List.count_pos_iff.2 (show b∈ownR (.s .own d z rows:DT) from hb)
    have q2:=hcnt b
    have q3:=h1.once b
    exact ⟨(h1.bnd b (by omega)).1,by omega⟩
   refine ⟨P,h1,hX,⟨fun _=>h2.v.2 0 _ _ rfl rfl,⟨fun u hu=>h2.holds u hu,fun u hu ho=>h2.own u hu ho,trivial⟩,fun D' u hu => ?_,fun b hb=>⟨hb,?_⟩⟩,fun b => ?_,rfl⟩
   ·rw [List.mem_singleton.1 hu];trivial
   ·have q1:=List.count_pos_iff.2 (show b∈ownR (.s .own d z rows:DT) from hb)
    have q2:=hcnt b
    exact (h1.bnd b (by omega)).2
   ·have q2:=hcnt b
    have q3:=h1.once b
    show (ownR (.s .own d z rows:DT)).count b≤1
    omega
  ·rename_i u hD
   split at e
   case isFalse =>
    split at e
    case h_2=>cases e
    rename_i h c hr
    split at e
    case h_2=>cases e
    rename_i d z rows hc
    rw [Option.map_eq_some_iff] at e
    obtain ⟨D',e1,e2⟩:=e
    cases e2
    obtain ⟨P,n1,n2,n3,n4,n5,n6⟩:=I.nodeTake hc e1
    obtain ⟨d',z',rows',g1,g2⟩:=Inv.root hr (I.kind _ (List.mem_of_getElem? hD) u (by simp [ai])) (I.val t _ hD)
    rw [hc] at g1;cases g1
    have hbl:ownBl (.one (.s .own d z rows):DSl)=bl (.s .own d z rows):=by simp [ownBl,ownR,T.isOwn]
    refine ⟨P,n1,by rw [hbl];exact n2,⟨fun _=>g2,⟨fun v hv => ?_,fun v hv _ => ?_,trivial⟩,fun D' v hv => ?_,fun b hb => ?_⟩,fun b=>by rw [hbl];exact n3 b,rfl⟩
    ·rw [List.mem_singleton.1 hv];exact n5
    ·rw [List.mem_singleton.1 hv];exact n6
    ·rw [List.mem_singleton.1 hv];trivial
    ·exact ⟨hb,n4 b (hbl ▸ hb)⟩
   rename_i ho
   cases e
   obtain ⟨P,h1,h2,h3,h4⟩:=I.takeSlot hD (.inr (.inl ⟨u,rfl⟩)) (fun v hv=>by
    simp [rootsO] at hv;subst hv
    cases v with
    | v x=>rfl
    | any=>rfl
    | s k d z r=>cases k<;>first | rfl | cases ho) (y:=a.eval (.tmp t)) (fun _=>I.val t _ hD)
   exact ⟨P,h1,h2,h3,h4,by simp [ch,ho]⟩
  ·rename_i ts hD
   split at e
   case isFalse =>
    split at e
    case h_2=>cases e
    rename_i h c j hri
    obtain ⟨u,_,hj,hr⟩:=pz hri
    have hagg:Am.aggNode D ts h c j=some (s,D1)→∃ P,Inv cx D1 P a.tmps w∧Out cx D1 (ownBl s)∧AOk w (ownBl s) s (a.eval (.tmp t))∧(∀ b,(ownBl s).count b≤1)∧(ch s).isSome=true:=fun e=>by
     obtain ⟨d,z,rows,_,_,_,P,q1,q2,q3,q4,q5,_⟩:=I.aggNode hD (by simpa using hj) hr e
     exact ⟨P,q1,q2,q3,q4,q5⟩
    split at e
    case h_2=>exact hagg e
    rename_i b bs hb
    split at e
    case isFalse=>exact hagg e
    rename_i hc
    cases e
    obtain ⟨P,q1,q2,q3,q4,q5,_⟩:=I.boxAgg hD hb hc.1 hc.2.1
    exact ⟨P,q1,q2,q3,q4,by simp only [ch];rw [if_pos hc.2.2];rfl⟩
   rename_i hl
   split at e
   case isFalse=>cases e
   rename_i hl2
   cases e
   obtain ⟨P,h1,h2,h3,h4⟩:=I.takeSlot hD (.inr (.inr ⟨ts,rfl⟩)) (gq hl) (y:=a.eval (.tmp t)) (fun _=>I.val t _ hD)
   exact ⟨P,h1,h2,h3,h4,by simp only [ch];rw [if_pos hl2];rfl⟩
  ·cases e
 | _=>cases e
theorem Inv.back {cx:Cx} {D1:DSt} {P:List (DT×Value)} {tm:Array Value} {w w':World} (I:Inv cx D1 P tm w) {X bx:List Nat} (hX:Out cx D1 X) (g:GrewH X w w') {o:Bool×List DT} {rd:cS} {v:Value} (R:RetOk w X w' bx [o] rd v)
  {Po Pr:List (DT×Value)} (hPo:PendOf Po o.2) (hPr:PendOf Pr (rd.flatMap (·.2))):Inv cx D1 (Po++Pr) tm w'∧∀ b,aE (Po++Pr) b=(ba ([o]++rd)).count b:=by
 have hcnt:∀ b,aE (Po++Pr) b=(ba ([o]++rd)).count b:=by
  intro b
  rw [fq,hPo.cnt,hPr.cnt,jo,List.count_append,mB rd]
  simp [ba]
 refine ⟨I.world hX g (fun p hp => ?_) (fun b hb => ?_),hcnt⟩
 ·rcases List.mem_append.1 hp with hp | hp
  ·exact R.pend (fun t ht=>⟨o,by simp,ht⟩) hPo cx p hp
  ·exact R.pend (fun t ht=>by
    obtain ⟨r,hr,ht⟩:=List.mem_flatMap.1 ht
    exact ⟨r,by simp [hr],ht⟩) hPr cx p hp
 ·rw [hcnt] at hb ⊢
  have h1:=R.once b
  obtain ⟨n1,n2⟩:=R.new b (List.count_pos_iff.1 hb)
  rcases n1 with n1 | n1
  ·refine ⟨by omega,?_,.inl (Nat.le_trans I.frame.size n1),n2⟩
   rcases Nat.eq_zero_or_pos (aZ D1 b) with q | q
   ·exact q
   ·have:=(I.bnd b (by omega)).2;omega
  ·exact ⟨by omega,(hX b n1).2,(hX b n1).1,n2⟩
theorem Inv.putBack {cx:Cx} {D1:DSt} {P:List (DT×Value)} {tm:Array Value} {w w':World} (I1:Inv cx D1 P tm w) {X bx:List Nat} (hX:Out cx D1 X) (g:GrewH X w w') {o:Bool×List DT} {rd:cS} {v:Value} (R:RetOk w X w' bx [o] rd v)
  {t:Nat} (ht:t<D1.length) {s':DSl} (hv:VS D1 s' (tm.getD t undef)) (hr:ai s'=o.2) (hr':rootsO s'=o.2) (hx:zc w' s') (hni:(∃ b,s' = .box b o.2∧bx=[b.1]∧b.1∈X∧b.1<w.heap.size)∨(∃ u,s' = .one u)∨∃ ts,s' = .agg ts)
  (heach:∀ u∈o.2,∃ y,VT u y):∃ Pr,PendOf Pr (rd.flatMap (·.2))∧Inv cx (aL D1 (some t) s') Pr tm w':=by
 obtain ⟨Po,hPo⟩:=dX heach
 obtain ⟨Pr,hPr⟩:=dX R.each
 obtain ⟨I2,hc⟩:=I1.back hX g R hPo hPr
 have hsz:t<tm.size:=by rw [← I1.size];exact ht
 have hmem:MemS w' s':=⟨fun u hu=>R.holds o (by simp) u (hr ▸ hu),fun u hu ho=>R.own o (by simp) u (hr' ▸ hu) ho,hx⟩
 have hkt:∀ u∈ai s',bg cx D1 u:=fun u hu=>qt (R.fine o (by simp) u (hr ▸ hu))
 refine ⟨Pr,hPr,?_⟩
 rw [← CU (tm:=tm) (t:=t) hsz]
 rcases hni with ⟨b,rfl,hbx,hbX,hblt⟩ | ⟨u,rfl⟩ | ⟨ts,rfl⟩
 ·refine Inv.putF (P:=Po) (Q:=Pr) I2 (fun x=>if x=b.1 then 1 else 0) (fun x hx => ?_) ht hv hmem hkt (fun x => ?_)
  ·split at hx
   ·rename_i e
    subst e
    have h1:=R.once b.1
    rw [hbx] at h1
    simp only [List.count_cons_self] at h1
    exact ⟨by simp,by rw [hc,(hX _ hbX).2];omega,(hX _ hbX).1,Nat.lt_of_lt_of_le hblt g.size⟩
   ·cases hx
  ·rw [hPo.cnt]
   simp only [ownBl,List.count_cons]
   by_cases e:x=b.1
   ·subst e;simp
   ·have:(b.1==x)=false:=by simp;exact fun h=>e h.symm
    simp [this,e]
 ·refine Inv.put (P:=Po) (Q:=Pr) I2 ht hv hmem hkt (fun x => ?_)
  rw [hPo.cnt, ← hr']
  simp [ownBl,rootsO]
 ·refine Inv.put (P:=Po) (Q:=Pr) I2 ht hv hmem hkt (fun x => ?_)
  rw [hPo.cnt, ← hr']
  exact Nat.le_refl _
theorem Inv.nodeBack {cx:Cx} {D:DSt} {tm:Array Value} {w w':World} (I:Inv cx D [] tm w) {h c:Nat} {st:List (Nat×Nat)} {u:DT} {d:Dec} {z:Nat} {rows:List (List DT)} (n1:am D h c=some u) (n2:u.isOwn=true)
  (n3:getN u st=some (.s .own d z rows)) (n5:OwnT w (.s .own d z rows)) (g:GrewH (bl (.s .own d z rows)) w w') {bx:List Nat} {o:Bool×List DT} {rd:cS} {v:Value} (R:RetOk w (bl (.s .own d z rows)) w' bx [o] rd v)
  {d':Dec} {rows':List (List DT)} (hm:(.s .own d' z rows':DT)∈o.2) (hval:Value.slice d'.addr rows'.length d'.cap = .slice d.addr rows.length d.cap) :
  ∃ D2 Pr,cE (iP rows') (St.dead (co h c) (jL h c) D) h c st=some D2∧PendOf Pr (rd.flatMap (·.2))∧Inv cx D2 Pr tm w':=by
 simp only [Value.slice.injEq] at hval
 obtain ⟨v1,v2,v3⟩:=hval
 have hH:=R.holds o (by simp) (.s .own d' z rows') hm
 have hO:=R.own o (by simp) (.s .own d' z rows') hm rfl
 have hd:d'=d∨(d.nil=true∧rows'=[]∧d.sp=none∧d.cap=0):=by
  rw [Dec.addr_sp hO.sp,Dec.addr_sp n5.sp] at v1
  cases hdn:d.nil with
  | true =>
   right
   rw [hdn] at v1
   have hdn':d'.nil=true:=by
    cases q:d'.nil with
    | true=>rfl
    | false=>rw [q] at v1;simp at v1
   refine ⟨rfl,hH.nilrows hdn',n5.sp,?_⟩
   cases n5 with
   | nil _ _ _ _ hc=>exact hc
   | s _ _ _ q=>rw [q] at hdn;cases hdn
  | false =>
   left
   rw [hdn] at v1
   cases q:d'.nil with
   | true=>rw [q] at v1;simp at v1
   | false =>
    rw [q] at v1
    simp only [Bool.false_eq_true,if_false,Option.some.injEq,Addr.mk.injEq] at v1
    have s1:=hO.sp
    have s2:=n5.sp
    cases d;cases d'
    simp_all
 have hN1:Holds w' (.s .own d z rows'):=by
  rcases hd with rfl | ⟨q1,rfl,q3,q4⟩
  ·exact hH
  ·exact .e .own d z
 have hN2:OwnT w' (.s .own d z rows'):=by
  rcases hd with rfl | ⟨q1,rfl,q3,q4⟩
  ·exact hO
  ·exact .nil d z q1 q3 q4
 have hbl:∀ b,(bl (.s .own d z rows')).count b≤(bl (.s .own d' z rows')).count b:=by
  intro b
  rcases hd with rfl | ⟨q1,rfl,q3,q4⟩
  ·exact Nat.le_refl _
  ·rw [bW,q1];simp
 obtain ⟨Pr,hPr⟩:=dX R.each
 have hres:∀ b,(bl (.s .own d' z rows')).count b+aE Pr b≤(ba ([o]++rd)).count b:=by
  intro b
  rw [jo,List.count_append,hPr.cnt,mB rd]
  refine Nat.add_le_add ?_ (Nat.le_refl _)
  obtain ⟨i,hi⟩:=List.getElem?_of_mem hm
  have q:=bj ownR (.any:DT) b o.2 i _ hi
  have q2:(ownR (.any:DT)).count b=0:=rfl
  have q3:ownR (.s .own d' z rows':DT)=bl (.s .own d' z rows'):=by simp [ownR,T.isOwn]
  rw [q3] at q
  have q4:(ba [o]).count b=(o.2.flatMap ownR).count b:=by simp [ba]
  omega
 have N:NodeOk w w' (.s .own d z rows) (.s .own d z rows'):=⟨hN1,hN2,fun y hy=>by
  show y=_
  rw [show y=_ from hy,v2],fun b hb hnb=>g.same b hb hnb⟩
 obtain ⟨D',k1,k2⟩:=I.updNode (P':=Pr) n1 n2 n3 (f:=iP rows') rfl N (fun _=>rfl) (p:=co h c) (q:=jL h c) (by simp [co]) (.inr (.inl ⟨by simp [jL],fun d2 z2 m ⟨k2,r2,q1,q2⟩=>by
   simp only [getN,Option.some.injEq,T.s.injEq] at q1
   obtain ⟨rfl,rfl,rfl,rfl⟩:=q1
   exact ⟨.own,rows',rfl,by omega⟩⟩)) (fun b=>by
   have q1:=R.once b
   have q3:=hres b
   have q2:=hbl b
   split
   ·rename_i hlt
    rcases Nat.eq_zero_or_pos ((bl (.s .own d' z rows')).count b+aE Pr b) with q | q
    ·omega
    ·have:=R.new b (List.count_pos_iff.1 (by omega))
     rcases this.1 with q' | q'
     ·omega
     ·have:=List.count_pos_iff.2 q'
      omega
   ·omega) (fun b hb hp=>by
   have q2:=hbl b
   have q3:=hres b
   exact (R.new b (List.count_pos_iff.1 (by omega))).2) g.size g.os g.tape g.output (R.pend (fun t ht=>by
   obtain ⟨r,hr,ht⟩:=List.mem_flatMap.1 ht
   exact ⟨r,by simp [hr],ht⟩) hPr cx)
 exact ⟨D',Pr,k1,hPr,k2⟩
theorem xO {d:Dec} {z:Nat} {rows:List (List DT)}:ownBl (.one (.s .own d z rows):DSl)=bl (.s .own d z rows):=by simp [ownBl,ownR,T.isOwn]
theorem Inv.nodePut {cx:Cx} {D D2:DSt} {tm:Array Value} {w w':World} (I:Inv cx D [] tm w) {h c:Nat} {d:Dec} {z:Nat} {rows:List (List DT)} (n1:am D h c=some (.s .own d z rows)) (n5:OwnT w (.s .own d z rows))
  (g:GrewH (bl (.s .own d z rows)) w w') {bx:List Nat} {o:Bool×List DT} {rd:cS} {v:Value} (R:RetOk w (bl (.s .own d z rows)) w' bx [o] rd v) {u:DT} (hm:u∈o.2) (hv:VT u (.slice d.addr rows.length d.cap))
  (e:Am.nodePut D h c u=some D2):∃ Pr,PendOf Pr (rd.flatMap (·.2))∧Inv cx D2 Pr tm w':=by
 unfold Am.nodePut at e
 rw [n1] at e
 split at e
 case h_2=>cases e
 rename_i k0 d0 z0 rows0 d' z' rows' hn0
 cases hn0
 split at e
 case isFalse=>cases e
 rename_i hz
 subst hz
 obtain ⟨D3,Pr,k1,k2,k3⟩:=I.nodeBack (st:=[]) n1 rfl rfl n5 g R hm hv.symm
 rw [k1] at e
 cases e
 exact ⟨Pr,k2,k3⟩
theorem Inv.boxBack {cx:Cx} {D D1:DSt} {P:List (DT×Value)} {tm:Array Value} {w w':World} (I:Inv cx D [] tm w) {h:Nat} {b:Nat×Nat} {bs:List DT} (hb:D[h]?=some (.box b bs)) (hl:bs.all T.noLent=true) (I1:Inv cx (aM h D) P tm w) {X bx:List Nat}
  (hX:Out cx (aM h D) X) (hXb:Out cx (aM h D) (ownBl (.box b bs))) (hbn:b.1∉X) (hblt:b.1<w.heap.size) (g:GrewH X w w') {o:Bool×List DT} {rd:cS} {v:Value} (R:RetOk w X w' bx [o] rd v)
  {cs:Array Value} (ho:VCells o.2 cs.toList) (hval:∀ (i:Nat) (x:DT) (y:Value),bs[i]?=some x→x.isOwn=true→cs.toList[i]?=some y→VT x y) :
  ∃ Pr,PendOf Pr (rd.flatMap (·.2))∧Inv cx (aL (aM h D) (some h) (.box b (gC bs o.2))) Pr tm w':=by
 obtain ⟨Po,hPo⟩:=dX ho.each
 obtain ⟨Pr,hPr⟩:=dX R.each
 obtain ⟨I2,hc⟩:=I1.back hX g R hPo hPr
 have hmem:=List.mem_of_getElem? hb
 have hm:=I.mem _ hmem
 have hkd:=I.kind _ hmem
 have ht:h<(aM h D).length:=by rw [lu];exact dq hb
 have hsz:h<tm.size:=by rw [← I1.size];exact ht
 have same:w'.heap[b.1]?=w.heap[b.1]?:=g.same b.1 hblt hbn
 have hmix:∀ x∈gC bs o.2,(x∈o.2)∨(x∈bs∧x.isOwn=false):=by
  intro x hx
  obtain ⟨i,hi⟩:=List.getElem?_of_mem hx
  obtain ⟨t',u',q1,q2,q3⟩:=uP hi
  cases hot:t'.isOwn with
  | true=>rw [hot,if_pos rfl] at q3;subst q3;exact .inl (List.mem_of_getElem? q2)
  | false=>rw [hot,if_neg Bool.false_ne_true] at q3;subst q3;exact .inr ⟨List.mem_of_getElem? q1,hot⟩
 have hfarB:∀ x∈bs,x.isOwn=false→∀ y∈bl x,(Cx.mk w X).far y:=by
  intro x hx hxo y hy
  rcases vw (gq hl x hx) with q | q | ⟨d,z,r,rfl⟩
  ·rw [hxo] at q;cases q
  ·rw [q] at hy;cases hy
  ·exact I1.farX hX (hkd _ hx y hy)
 obtain ⟨c,e,f,l1,l2⟩:=hm.2.2.1
 refine ⟨Pr,hPr,?_⟩
 rw [← CU (tm:=tm) (t:=h) hsz]
 refine Inv.putF (P:=Po) (Q:=Pr) I2 (fun x=>if x=b.1 then 1 else 0) (fun x hx => ?_) ht (I.val h _ hb) ⟨fun u hu => ?_,fun u hu hou => ?_,⟨⟨c,e,f,by rw [same];exact l1,fun j u hj => ?_⟩,fun c' e' lo hi' hc' y h1 h2 => ?_⟩⟩ (fun u hu => ?_) (fun x => ?_)
 ·split at hx
  ·rename_i hxe
   subst hxe
   have q0:=hXb b.1 (by simp [ownBl])
   refine ⟨by simp,?_,q0.1,Nat.lt_of_lt_of_le hblt g.size⟩
   rw [hc,q0.2]
   rcases Nat.eq_zero_or_pos ((ba ([o]++rd)).count b.1) with q | q
   ·omega
   ·have:=(R.new b.1 (List.count_pos_iff.1 q)).1
    rcases this with q' | q'
    ·omega
    ·exact absurd q' hbn
  ·cases hx
 ·rcases hmix u hu with q | ⟨q,q2⟩
  ·exact R.holds o (by simp) u q
  ·exact (hm.1 u q).frame fun y hy _=>g.same y (hfarB u q q2 y hy).1 (hfarB u q q2 y hy).2
 ·rcases hmix u hu with q | ⟨q,q2⟩
  ·exact R.own o (by simp) u q hou
  ·rw [q2] at hou;cases hou
 ·obtain ⟨t',u',q1,q2,q3⟩:=uP hj
  obtain ⟨y,y1,y2⟩:=l2 j t' q1
  refine ⟨y,y1,?_⟩
  cases hot:t'.isOwn with
  | false=>rw [hot,if_neg Bool.false_ne_true] at q3;subst q3;exact y2
  | true =>
   rw [hot,if_pos rfl] at q3;subst q3
   have hlt:j<cs.toList.length:=by rw [← ho.1];exact dq q2
   have hcy:=List.getElem?_eq_getElem hlt
   have v1:=hval j t' _ q1 hot hcy
   have v2:=ho.2 j _ _ q2 hcy
   cases t' with
   | v x=>cases hot
   | any=>cases hot
   | s k d z r =>
    have e1:cs.toList[j] = .slice d.addr r.length d.cap:=v1
    have e2:y = .slice d.addr r.length d.cap:=y2
    rw [e2, ← e1];exact v2
 ·rw [same] at hc'
  have hlen:(gC bs o.2).length≤bs.length:=by
   have:∀ (a b:List DT),(gC a b).length≤a.length:=by
    intro a
    induction a with
    | nil=>intro b;cases b<;>simp [gC]
    | cons x a ih=>intro b;cases b with
     | nil=>simp [gC]
     | cons y b=>simp only [gC,List.length_cons];have:=ih b;omega
   exact this bs o.2
  exact hm.2.2.2 c' e' lo hi' hc' y h1 (by omega)
 ·rcases hmix u hu with q | ⟨q,q2⟩
  ·exact qt (R.fine o (by simp) u q)
  ·rcases vw (gq hl u q) with q' | q' | ⟨d,z,r,rfl⟩
   ·rw [q2] at q';cases q'
   ·cases u with
    | v x=>trivial
    | any=>trivial
    | s k d z r=>cases k<;>first | (cases q2;done) | exact hkd _ q | (have:=gq hl _ q;cases this)
   ·exact hkd _ q
 ·have q:=Aw (ts:=bs) (us:=o.2) x
  rw [hPo.cnt]
  simp only [ownBl,List.count_cons]
  by_cases hxe:x=b.1
  ·subst hxe;simp;omega
  ·have:(b.1==x)=false:=by simp;exact fun h=>hxe h.symm
   simp [this,hxe];omega
theorem Inv.homePut0 {cx:Cx} {D:DSt} {a:Act} {w w':World} (I:Inv cx D [] a.tmps w) {x:Operand} {s:DSl} {D1 D2:DSt} (e:Am.homeTake D x=some (s,D1)) (g:GrewH (ownBl s) w w') {o:Bool×List DT} {rd:cS} {v:Value}
  (R:RetOk w (ownBl s) w' (ca s) [o] rd v) (ho:u7 w' s (a.eval x) o) (e2:Am.homePut0 D D1 x o=some D2):∃ Pr,PendOf Pr (rd.flatMap (·.2))∧Inv cx D2 Pr a.tmps w':=by
 obtain ⟨P,h1,h2,h3,h4,h5⟩:=I.homeTake e
 have boxEach:∀ {b:Nat×Nat} {us:List DT},Lies w' b us→∀ u∈us,∃ y,VT u y:=by
  rintro b us ⟨c,e,f,q1,q2⟩ u hu
  obtain ⟨j,hj⟩:=List.getElem?_of_mem hu
  obtain ⟨y,_,hy⟩:=q2 j u hj
  exact ⟨y,hy⟩
 cases x with
 | tmp t =>
  simp only [Am.homeTake] at e
  split at e
  ·rename_i b ts hD
   split at e
   case isFalse=>cases e
   cases e
   simp only [Am.homePut0,hD] at e2
   cases e2
   obtain ⟨o1,o2,o3⟩:=ho
   have hb:=(h3.own b.1 (by simp [ownBl])).2
   exact h1.putBack h2 g R (by rw [lu];exact dq hD) (s' := .box b o.2) (I.val t _ hD) rfl rfl ⟨o2,o3⟩ (.inl ⟨b,rfl,rfl,by simp [ownBl],hb⟩) (boxEach o2)
  ·rename_i h off hD
   split at e
   case isFalse=>cases e
   split at e
   case h_2=>cases e
   rename_i b ts hb
   split at e
   case isFalse=>cases e
   cases e
   simp only [Am.homePut0,hD,hb] at e2
   cases e2
   obtain ⟨o1,o2,o3⟩:=ho
   have hb':=(h3.own b.1 (by simp [ownBl])).2
   exact h1.putBack h2 g R (by rw [lu];exact dq hb) (s' := .box b o.2) (I.val h _ hb) rfl rfl ⟨o2,o3⟩ (.inl ⟨b,rfl,rfl,by simp [ownBl],hb'⟩) (boxEach o2)
  ·rename_i h c st lo len hD
   split at e
   case h_2=>cases e
   rename_i d z rows hn
   split at e
   case isFalse=>cases e
   rename_i hc
   obtain ⟨rfl,rfl⟩:=hc
   rw [Option.map_eq_some_iff] at e
   obtain ⟨D3,hD3,e⟩:=e
   cases e
   simp only [Am.homePut0,hD,hn] at e2
   split at e2
   case h_2=>cases e2
   rename_i k0 d0 z0 rows0 d' z' rows' hn0 ho2
   cases hn0
   split at e2
   case isFalse=>cases e2
   rename_i hz
   subst hz
   obtain ⟨u,n1,n2,n3,n4,n5,n6⟩:=I.alNode hD hn
   obtain ⟨o1,o2⟩:=ho
   unfold VPart at o1
   rw [o2,ho2] at o1
   simp only [Bool.false_eq_true,if_false] at o1
   obtain ⟨t',ht',hv'⟩:=o1
   cases ht'
   have hval:Value.slice d'.addr rows'.length d'.cap = .slice d.addr rows.length d.cap:=by
    have q1:a.eval (.tmp t)=_:=hv'
    have q2:a.tmps.getD t undef=_:=n6
    exact q1.symm.trans q2
   rw [xO] at g R
   obtain ⟨D4,Pr,k1,k2,k3⟩:=I.nodeBack n1 n2 n3 n5 g R (by rw [ho2];simp) hval
   rw [k1] at e2
   cases e2
   exact ⟨Pr,k2,k3⟩
  ·rename_i u hD
   split at e
   case isFalse hno =>
    split at e
    case h_2=>cases e
    rename_i h c hr
    split at e
    case h_2=>cases e
    rename_i d z rows hc
    rw [Option.map_eq_some_iff] at e
    obtain ⟨D',e1,e3⟩:=e
    cases e3
    obtain ⟨P',q1,q2,q3,q4,q5,q6⟩:=I.nodeTake hc e1
    obtain ⟨d0,z0,rows0,g1,g2⟩:=Inv.root hr (I.kind _ (List.mem_of_getElem? hD) u (by simp [ai])) (I.val t _ hD)
    rw [hc] at g1;cases g1
    simp only [Am.homePut0,hD] at e2
    split at e2
    case h_2=>cases e2
    rename_i d1 z1 rows1 ho2
    rw [if_neg hno,hr] at e2
    obtain ⟨o1,o2⟩:=ho
    unfold VPart at o1
    rw [o2,ho2] at o1
    simp only [Bool.false_eq_true,if_false] at o1
    obtain ⟨t',ht',hv'⟩:=o1
    cases ht'
    rw [xO] at g R
    have hv2:VT (.s .own d1 z1 rows1:DT) (.slice d.addr rows.length d.cap):=by
     have:a.eval (.tmp t) = .slice d.addr rows.length d.cap:=g2
     rw [← this];exact hv'
    exact I.nodePut hc q6 g R (by rw [ho2];simp) hv2 e2
   rename_i hown
   cases e
   simp only [Am.homePut0,hD] at e2
   split at e2
   case h_2=>cases e2
   rename_i d z rows ho2
   rw [if_pos hown] at e2
   cases e2
   obtain ⟨o1,o2⟩:=ho
   have heach:=o1.each
   unfold VPart at o1
   rw [o2,ho2] at o1
   simp only [Bool.false_eq_true,if_false] at o1
   obtain ⟨t',ht',hv'⟩:=o1
   cases ht'
   exact h1.putBack h2 g R (by rw [lu];exact dq hD) (s' := .one (.s .own d z rows)) hv' ho2.symm ho2.symm trivial (.inr (.inl ⟨_,rfl⟩)) heach
  ·rename_i ts hD
   split at e
   case isFalse hno =>
    split at e
    case h_2=>cases e
    rename_i h c j hri
    obtain ⟨u,_,hj,hr⟩:=pz hri
    rw [Nat.sub_zero] at hj
    simp only [Am.homePut0,hD] at e2
    rw [if_neg hno,hri] at e2
    simp only at e2
    have hagg:Am.aggNode D ts h c j=some (s,D1)→(o.2[j]?).bind (Am.nodePut D h c)=some D2→∃ Pr,PendOf Pr (rd.flatMap (·.2))∧Inv cx D2 Pr a.tmps w':=fun e e2=>by
     obtain ⟨d,z,rows,g1,g2,g3,P',q1,q2,q3,q4,q5,q6⟩:=I.aggNode hD hj hr e
     subst g2
     rw [g3] at g R
     obtain ⟨o1,o2⟩:=ho
     unfold VPart at o1
     rw [o2] at o1
     simp only [if_true] at o1
     obtain ⟨cs,hcs,hvc⟩:=o1
     rw [Option.bind_eq_some_iff] at e2
     obtain ⟨v',hv1,hv2⟩:=e2
     have hlt:j<cs.toList.length:=by rw [← hvc.1];exact dq hv1
     obtain ⟨cs',hcs',hvc'⟩:=q3.val D
     have hcc:cs'=cs:=by rw [hcs] at hcs';cases hcs';rfl
     subst hcc
     have k1:=hvc.2 j v' _ hv1 (List.getElem?_eq_getElem hlt)
     have k2:VT (.s .own d z rows:DT) cs'.toList[j]:=hvc'.2 j _ _ (by rw [List.getElem?_set_self (dq hj)]) (List.getElem?_eq_getElem hlt)
     have k3:cs'.toList[j] = .slice d.addr rows.length d.cap:=k2
     rw [k3] at k1
     exact I.nodePut g1 q6 g R (List.mem_of_getElem? hv1) k1 hv2
    split at e
    case h_2 hnb =>
     split at e2
     ·rename_i b bs hb;exact absurd hb (hnb b bs)
     ·exact hagg e e2
    rename_i b bs hb
    rw [hb] at e2
    simp only at e2
    split at e
    case isFalse hc =>
     rw [if_neg hc] at e2
     exact hagg e e2
    rename_i hc
    rw [if_pos hc] at e2
    cases e
    cases e2
    obtain ⟨P',q1,q2,q3,q4,⟨q5,q6,q7⟩,q8⟩:=I.boxAgg hD hb hc.1 hc.2.1
    obtain ⟨o1,o2⟩:=ho
    unfold VPart at o1
    rw [o2] at o1
    simp only [if_true] at o1
    obtain ⟨cs,hcs,hvc⟩:=o1
    exact I.boxBack (D1:=aM h D) hb hc.2.1 q1 q2 q5 q6 q7 g R hvc (q8 cs hcs)
   rename_i hl
   split at e
   case isFalse=>cases e
   cases e
   simp only [Am.homePut0,hD] at e2
   rw [if_pos hl] at e2
   cases e2
   obtain ⟨o1,o2⟩:=ho
   have heach:=o1.each
   unfold VPart at o1
   rw [o2] at o1
   exact h1.putBack h2 g R (by rw [lu];exact dq hD) (s' := .agg o.2) o1 rfl rfl trivial (.inr (.inr ⟨_,rfl⟩)) heach
  ·cases e
 | _=>cases e
section
variable {δ β : Type}
def vy (o:Bool×List (T δ)):Bool:=match o with | (false,[.any])=>true | _=>false
def homePut (D D1:St δ β) (x:Operand) (o:Bool×List (T δ)):Option (St δ β):=if vy o=true then some D1 else homePut0 D D1 x o
end
theorem Ga (o:Bool×List DT):vy (o.1,erL o.2)=vy o:=by
 obtain ⟨g,ts⟩:=o
 cases g with
 | true=>rfl
 | false =>
  match ts with
  | []=>rfl
  | [t]=>cases t<;>first | rfl | (simp only [erL,List.map_cons,List.map_nil,au];rfl)
  | t::u::ts=>cases t<;>first | rfl | (simp only [erL,List.map_cons,au];rfl)
theorem Dk (D D1:DSt) (x:Operand) (o:Bool×List DT):homePut (erD D) (erD D1) x (o.1,erL o.2)=(homePut D D1 x o).map erD:=by
 unfold homePut
 rw [Ga,BJ]
 split<;>rfl
theorem Inv.dropL {cx:Cx} {D:DSt} {P Q:List (DT×Value)} {tm:Array Value} {w:World} (I:Inv cx D (P++Q) tm w):Inv cx D Q tm w where
 size:=I.size
 val:=I.val
 mem:=I.mem
 kind:=I.kind
 pend:=fun p hp=>I.pend p (by simp [hp])
 once:=fun b=>by have:=I.once b;rw [fq] at this;omega
 bnd:=fun b hb=>I.bnd b (by rw [fq];omega)
 frame:=I.frame
theorem Inv.homePut {cx:Cx} {D:DSt} {a:Act} {w w':World} (I:Inv cx D [] a.tmps w) {x:Operand} {s:DSl} {D1 D2:DSt} (e:Am.homeTake D x=some (s,D1)) (g:GrewH (ownBl s) w w') {o:Bool×List DT} {rd:cS} {v:Value}
  (R:RetOk w (ownBl s) w' (ca s) [o] rd v) (ho:u7 w' s (a.eval x) o) (e2:Am.homePut D D1 x o=some D2):∃ Pr,PendOf Pr (rd.flatMap (·.2))∧Inv cx D2 Pr a.tmps w':=by
 unfold Am.homePut at e2
 split at e2
 ·rename_i hg
  cases e2
  obtain ⟨P,h1,h2,h3,h4,h5⟩:=I.homeTake e
  have heach:∀ u∈o.2,∃ y,VT u y:=by
   unfold vy at hg
   split at hg
   ·intro u hu
    rw [List.mem_singleton] at hu
    subst hu
    exact ⟨.bool true,rfl⟩
   ·cases hg
  obtain ⟨Po,hPo⟩:=dX heach
  obtain ⟨Pr,hPr⟩:=dX R.each
  exact ⟨Pr,hPr,(h1.back h2 g R hPo hPr).1.dropL⟩
 ·exact I.homePut0 e g R ho e2
end Go.Proofs.YtgaiiephdjllkaaGreatDoor.Am
namespace Go.Proofs.YtgaiiephdjllkaaGreatDoor.Am
set_option linter.unusedVariables false
set_option linter.unusedSimpArgs false
open Go
abbrev US:=St Unit Unit
def gG (P : Program) (fns : FuncId → Option Func) : Prop := ∀ f fn, fns f = some fn → P.funcs[f]? = some fn ∧ (fn.name == "runtime.NumGoroutine") = false ∧ fn.body.isNone = false
def callTo (D:US) (o:Oper):Option (FuncId×List Operand×List (Unit×List (T Unit))) :=
 match o.op with
 | .call c=>match c.callee with | .value x=>(match opd mkU.nil D x with | some (.fni f caps)=>some (f,c.args.toList,caps) | _=>none) | _=>none
 | _=>none
theorem Inv.callTo {cx:Cx} {D:DSt} {a:Act} {w:World} (I:Inv cx D [] a.tmps w) {o:Oper} {f:FuncId} {xs:List Operand} {caps:List (Unit×List (T Unit))} (h:callTo (erD D) o=some (f,xs,caps)) :
  ∃ c x capsD,o.op = .call c∧c.callee = .value x∧xs=c.args.toList∧caps=capsD.map (fun p=>((),erL p.2))∧AOk w [] (.fni f capsD) (a.eval x) ∧
   a.eval x = .func (.func f) #[] (capsD.map fun b=>Value.pointer (some ⟨b.1.1,b.1.2,none⟩)).toArray:=by
 unfold Am.callTo at h
 split at h
 case h_2=>cases h
 rename_i c hop
 split at h
 case h_2=>cases h
 rename_i x hcal
 split at h
 case h_2=>cases h
 rename_i f' caps' hx
 cases h
 rw [bR,Option.map_eq_some_iff] at hx
 obtain ⟨s,h1,h2⟩:=hx
 have hv:=(I.opd h1).val
 cases s with
 | fni f'' capsD =>
  simp only [Sl.er,Sl.fni.injEq] at h2
  obtain ⟨rfl,rfl⟩:=h2
  refine ⟨c,x,capsD,hop,hcal,rfl,rfl,?_,hv⟩
  have:Am.argOf mkD D x=some (Sl.fni f'' capsD):=by
   have h1':Am.opd mkD.nil D x=some (Sl.fni f'' capsD):=h1
   simp only [Am.argOf,h1']
  exact (I.argOf (Out.nil cx D) this).1
 | one u=>cases h2
 | im k b ts off=>cases h2
 | _=>cases h2
theorem ArgsOk.ims {w:World} {X:List Nat} {ad:List DSl} {vs:List Value} (h:ArgsOk w X ad vs) {f:FuncId} {caps:List ((Nat×Nat)×List DT)} {y:Value} (g:AOk w X (.fni f caps) y) :
  ArgsOk w X (ad++Am.ims caps) (vs++caps.map fun b=>Value.pointer (some ⟨b.1.1,b.1.2,none⟩)):=by
 obtain ⟨h1,h2,h3⟩:=h
 refine ⟨by simp [h1,Am.ims],fun i a v hi hv => ?_,fun b=>by rw [List.flatMap_append,E6,List.append_nil];exact h3 b⟩
 rcases Nat.lt_or_ge i ad.length with q | q
 ·rw [List.getElem?_append_left q] at hi
  rw [List.getElem?_append_left (by omega)] at hv
  exact h2 i a v hi hv
 ·rw [List.getElem?_append_right q] at hi
  rw [List.getElem?_append_right (by omega), ← h1] at hv
  exact g.ims _ a v hi hv
theorem Ac {caps:List ((Nat×Nat)×List DT)}:∀ a∈Am.ims caps,a.isHome=false:=by
 intro a ha
 obtain ⟨p,_,rfl⟩:=List.mem_map.1 ha
 rfl
def addrSl (D:US) (dst:Option Nat) (offs:List Nat) (xs:List Operand) (caps:List (Unit×List (T Unit))):Option US :=
 match xs,caps with
 | [x],[]=>(iI D x).bind fun h=>dj D dst (.clo (.arr offs) (offs.map fun _=>h))
 | _,_=>none
theorem Gf (D:DSt) (dst:Option Nat) (s:DSl):dj (erD D) dst s.er=(dj D dst s).map erD:=lb D dst s
theorem x8 {α β:Type} (x:α):∀ (l:List β),((l.map fun _=>x).zip l)=l.map fun o=>(x,o)
 | []=>rfl
 | o::l=>by simp [x8 x l]
theorem Inv.addrSl {P:Program} {tab:Tab} (ok:a8 P tab) {cx:Cx} {D:DSt} {a:Act} {w:World} (I:Inv cx D [] a.tmps w) {f:FuncId} {offs:List Nat} (hf:tab.addr.lookup f=some offs) {dst:Option Nat} {xs:List Operand}
  {U:US} (e:addrSl (erD D) dst offs xs []=some U):Calls P f (xs.map a.eval).toArray w fun e w'=>∃ v,e = .returned v∧∃ D',erD D'=U∧Inv cx D' [] (a.put dst v).tmps w':=by
 unfold Am.addrSl at e
 split at e
 case h_2=>cases e
 rename_i x _
 rw [qJ,Option.bind_eq_some_iff] at e
 obtain ⟨h,h1,h2⟩:=e
 have hone:∃ (b:Nat×Nat) (ts:List DT),D[h]?=some (.box b ts)∧a.eval x = .pointer (some ⟨b.1,b.2,none⟩):=by
  unfold iI at h1
  split at h1
  ·rename_i t
   split at h1
   ·rename_i b ts hb
    cases h1
    exact ⟨b,ts,hb,I.val _ _ hb⟩
   ·rename_i h' hb
    cases h1
    obtain ⟨b,ts,k1,k2⟩:=I.val _ _ hb
    exact ⟨b,ts,k1,k2⟩
   ·cases h1
  ·cases h1
 obtain ⟨b,ts,hD,hx⟩:=hone
 have hA:=ok.addr _ (fd hf) b w
 simp only [List.map_cons,List.map_nil,hx]
 refine hA.mono ?_
 rintro e w' ⟨rfl,g⟩
 refine ⟨_,rfl,?_⟩
 have I2:Inv cx D [] a.tmps w':=I.world (P':=[]) (Out.nil cx D) (g.x []) (fun p hp=>by cases hp) (fun b hb=>by rw [bZ] at hb;cases hb)
 have hT:Tells cx D w' (.clo (.arr offs) (offs.map fun _=>h)) (.agg (offs.map fun o=>Value.pointer (some ⟨b.1,b.2+o,none⟩)).toArray):=by
  refine ⟨⟨offs.map fun _=>b,by simp,fun i h' b' hi hb => ?_,?_⟩,⟨fun u hu=>by simp [ai] at hu,fun u hu=>by simp [rootsO] at hu,trivial⟩,fun u hu=>by simp [ai] at hu,rfl⟩
  ·rw [List.getElem?_map,Option.map_eq_some_iff] at hi hb
   obtain ⟨_,_,rfl⟩:=hi
   obtain ⟨_,_,rfl⟩:=hb
   exact ⟨ts,hD⟩
  ·simp only [zp,x8,List.map_map]
   rfl
 have h2':dj (erD D) dst (Sl.er (.clo (.arr offs) (offs.map fun _=>h)))=some U:=h2
 rw [Gf,Option.map_eq_some_iff] at h2'
 obtain ⟨D',h3,rfl⟩:=h2'
 refine ⟨D',rfl,?_⟩
 unfold dj at h3
 split at h3
 ·cases h3
  exact I2
 ·split at h3
  ·cases h3
   exact I2.putA ‹_› hT
  ·cases h3
def stepU (tab:Tab) (fns:FuncId→Option Func) (C:Sem1) (D:US) (o:Oper) (tk:Bool):Option US :=
 match callTo D o with
 | some (f,xs,caps) =>
  if (fns f).isSome then
   match tab.addr.lookup f with
   | some offs=>addrSl D o.dst offs xs caps
   | none =>
   match tab.io.lookup f with
   | none=>(argsW mkU tab f D xs).bind fun as=>(C f (as++ims caps)).bind fun rs=>putRet mkU D o.dst rs
   | some i =>
    match caps,xs[i]? with
    | [],some x=>(homeTake D x).bind fun r=>(argsIo mkU r.2 r.1 i xs).bind fun as=>(C f as).bind fun rs=>match rs with | q::rs=>(homePut D r.2 x q).bind fun D2=>putRet mkU D2 o.dst rs | []=>none
    | _,_=>none
  else none
 | none=>cv mkU frU tab D o tk
theorem xW {P:Program} {o:Oper} {c:Call} {x:Operand} {f:FuncId} {fn:Func} {a:Act} {w:World} {ps:List Value} (hop:o.op = .call c) (hcal:c.callee = .value x) (hev:a.eval x = .func (.func f) #[] ps.toArray)
  (p1 : P.funcs[f]? = some fn) (p2 : (fn.name == "runtime.NumGoroutine") = false) (p3 : fn.body.isNone = false) : (execOp a.eval o).run P w = .ok (.enter f (c.args.toList.map a.eval ++ ps).toArray) w := by
 have e2:(c.args.toList.map a.eval++ps).toArray=c.args.map a.eval++ps.toArray:=by
  rw [← Array.toList_inj];simp
 rw [e2]
 simp only [execOp,hop,resolve,hcal,hev]
 have p2' : ¬ fn.name = "runtime.NumGoroutine" := by simpa using p2
 have p3':¬ fn.body=none:=by intro h;rw [h] at p3;cases p3
 simp [Deferred.ofValue,invoke,callFunc,p1,p2',p3']
theorem wH {rd:cS}:erR ([]++rd)=erR rd:=rfl
theorem Inv.stepU {P:Program} {tab:Tab} (ok:a8 P tab) {fns:FuncId→Option Func} (hf:gG P fns) {B:Base} {C:Sem1} {cx:Cx} (hC:fB P B C cx) {D:DSt} {a:Act} {w:World} (I:Inv cx D [] a.tmps w)
  {o:Oper} {tk:Bool} {U:US} (e:stepU tab fns C (erD D) o tk=some U) {K:Act→World→Prop} {Q:Exit→Act→World→Prop}
  (hK:∀ D' a' w',erD D'=U→(∃ y,a'=a.put o.dst y)→Inv cx D' [] a'.tmps w'→K a' w'):o.wp P a w K Q:=by
 unfold Am.stepU at e
 split at e
 ·rename_i f xs caps hc
  split at e
  case isFalse=>cases e
  rename_i hfs
  obtain ⟨fn,hfn⟩:=Option.isSome_iff_exists.1 hfs
  obtain ⟨p1,p2,p3⟩:=hf f fn hfn
  obtain ⟨c,x,capsD,hop,hcal,rfl,rfl,hfa,hev⟩:=I.callTo hc
  have hex:=xW (w:=w) hop hcal hev p1 p2 p3
  unfold Oper.wp
  rw [hex]
  split at e
  ·rename_i offs hoffs
   have hcaps:capsD=[]:=by
    unfold Am.addrSl at e
    split at e
    ·rename_i hc2;simpa using hc2
    ·cases e
   subst hcaps
   have h1:=I.addrSl ok hoffs e
   simp only [List.map_nil,List.append_nil]
   refine h1.mono ?_
   rintro e0 w' ⟨v,rfl,D',h2,h3⟩
   exact hK D' _ _ h2 ⟨_,rfl⟩ h3
  split at e
  ·rw [Option.bind_eq_some_iff] at e
   obtain ⟨as,h1,e⟩:=e
   rw [Option.bind_eq_some_iff] at e
   obtain ⟨rs,h2,h3⟩:=e
   rw [zx] at h1
   obtain ⟨ad,h1',rfl⟩:=Option.map_eq_some_iff.1 h1
   obtain ⟨hA,hN⟩:=I.argsW (Out.nil cx D) h1'
   have hA2:=hA.ims hfa
   have hN2:∀ s∈ad++ims capsD,s.isHome=false:=fun s hs=>(List.mem_append.1 hs).elim (hN s) (Ac s)
   have hcall:=hC.1 f _ rs h2 w [] (ad++ims capsD) _ (hC.2.at I (Out.nil cx D)) (by rw [List.map_append,EN]) hA2
   refine hcall.mono ?_
   rintro e w' ⟨v,od,rd,rfl,g,hr,hO,R⟩
   have:=OutsOk.none hN2 hO
   subst this
   subst hr
   rw [wH,xF] at h3
   obtain ⟨D',h3',rfl⟩:=Option.map_eq_some_iff.1 h3
   exact hK D' _ _ rfl ⟨_,rfl⟩ (I.putRet g.grew R h3')
  ·rename_i i hio
   split at e
   case h_2=>cases e
   rename_i x0 hcaps hx0
   have hcd:capsD=[]:=by simpa using hcaps
   subst hcd
   rw [Option.bind_eq_some_iff] at e
   obtain ⟨⟨s,D1⟩,h1,e⟩:=e
   rw [BK] at h1
   obtain ⟨⟨sd,Dd1⟩,h1',h1e⟩:=Option.map_eq_some_iff.1 h1
   cases h1e
   rw [Option.bind_eq_some_iff] at e
   obtain ⟨as,h2,e⟩:=e
   rw [Option.bind_eq_some_iff] at e
   obtain ⟨rs,h3,e⟩:=e
   simp only at h2
   rw [xD] at h2
   obtain ⟨ad,h2',rfl⟩:=Option.map_eq_some_iff.1 h2
   obtain ⟨Pd,k1,k2,k3,k4,k5⟩:=I.homeTake h1'
   obtain ⟨hA,hB,hOne⟩:=k1.argsIo k2 k3 k4 hx0 h2'
   have hcall:=hC.1 f _ rs h3 w (ownBl sd) ad _ (hC.2.at k1 k2) rfl hA
   simp only [List.map_nil,List.append_nil]
   refine hcall.mono ?_
   rintro e0 w' ⟨v,od,rd,rfl,g,hr,hO,R⟩
   obtain ⟨q,rfl,hq⟩:=OutsOk.one k5 hOne hO
   subst hr
   rw [OneHome.box hOne] at R
   simp only [List.singleton_append,erR,List.map_cons] at e
   rw [Option.bind_eq_some_iff] at e
   obtain ⟨U2,e1,e2⟩:=e
   rw [Dk] at e1
   obtain ⟨D2,e1',rfl⟩:=Option.map_eq_some_iff.1 e1
   obtain ⟨Pr,n1,n2⟩:=I.homePut h1' g R hq e1'
   have e2':Am.putRet mkU (erD D2) o.dst (erR rd)=some U:=e2
   rw [xF] at e2'
   obtain ⟨D',e3,rfl⟩:=Option.map_eq_some_iff.1 e2'
   exact hK D' _ _ rfl ⟨_,rfl⟩ (n2.putRetP R n1 e3)
 ·rw [Gg w] at e
  obtain ⟨D',e',rfl⟩:=Option.map_eq_some_iff.1 e
  obtain ⟨nx,w',h1,h2⟩:=wo ok I e'
  unfold Oper.wp
  rw [h1]
  cases h2 with
  | value y h=>exact hK D' _ _ rfl ⟨_,rfl⟩ h
  | skip hd h =>
   show K (a.put o.dst undef) w'
   refine hK D' _ _ rfl ⟨_,rfl⟩ ?_
   rw [hd]
   exact h
def yieldAt {δ β:Type} (D:St δ β) (t:Nat):Option (Option Bool) :=
 match D[t]? with
 | some (.one (.v (.bool b)))=>some (some b)
 | some (.tup [])=>some none
 | _=>none
theorem qK (D:DSt) (t:Nat):yieldAt (erD D) t=yieldAt D t:=by
 unfold yieldAt
 rw [bE]
 cases D[t]? with
 | none=>rfl
 | some s =>
  cases s with
  | one u =>
   cases u with
   | s k d z r=>simp [Sl.er,au]
   | v x=>cases x<;>rfl
   | any=>rfl
  | tup rs=>cases rs<;>rfl
  | _=>rfl
theorem Inv.yieldAt {cx:Cx} {D:DSt} {P:List (DT×Value)} {tm:Array Value} {w:World} (I:Inv cx D P tm w) {t:Nat} {y:Option Bool} (e:yieldAt D t=some y) :
  (match tm[t]? with | some (.bool b)=>some b | _=>none)=y:=by
 unfold Am.yieldAt at e
 have key:∀ s,D[t]?=some s→VS D s (tm.getD t undef)∧tm[t]?=some (tm.getD t undef):=by
  intro s h
  have hlt:t<tm.size:=by
   rw [← I.size]
   rcases Nat.lt_or_ge t D.length with g | g
   ·exact g
   ·rw [List.getElem?_eq_none g] at h;cases h
  refine ⟨I.val t _ h,?_⟩
  rw [Array.getD_eq_getD_getElem?,Array.getElem?_eq_getElem hlt];rfl
 split at e
 ·rename_i b' h
  cases e
  obtain ⟨h1,h2⟩:=key _ h
  rw [h2,show tm.getD t undef = .bool b' from h1.1]
 ·rename_i h
  cases e
  obtain ⟨⟨vs,h1,_⟩,h2⟩:=key _ h
  rw [h2,h1]
 ·cases e
theorem Inv.putUndef {cx:Cx} {D:DSt} {a:Act} {w:World} (I:Inv cx D [] a.tmps w) {t:Nat} (ht:t<D.length):Inv cx (Am.putA D t (.tup [])) [] (a.put (some t) undef).tmps w :=
 I.putA ht ⟨⟨#[],rfl,rfl,fun i r v h=>by simp at h⟩,⟨fun u hu=>by simp [ai] at hu,fun u hu=>by simp [rootsO] at hu,trivial⟩,fun u hu=>by simp [ai] at hu,rfl⟩
def runOps (tab:Tab) (fns:FuncId→Option Func) (C:Sem1) (tk:Nat→Bool) (ops:Array Oper):List Oper→Nat→US→Option US
 | [],_,D=>some D
 | o::r,i,D =>
  match o.guard with
  | none=>(stepU tab fns C D o (tk i)).bind (runOps tab fns C tk ops r (i+1))
  | some (j,want) =>
   match ((ops[j]?).bind (·.dst)).bind (yieldAt D) with
   | some b=>if b=some want then (stepU tab fns C D o (tk i)).bind (runOps tab fns C tk ops r (i+1)) else
    (match o.dst with | none=>some D | some t=>if t<D.length then some (putA D t (.tup [])) else none).bind (runOps tab fns C tk ops r (i+1))
   | none=>none
theorem Inv.runOps2 {P:Program} {tab:Tab} (ok:a8 P tab) {fns:FuncId→Option Func} (hf:gG P fns) {B:Base} {C:Sem1} {cx:Cx} (hC:fB P B C cx) {tk:Nat→Bool} {ops:Array Oper} {Q:Exit→Act→World→Prop} {U:US}
  {T:Act→Prop} {l2:List Oper} (hQ:∀ D' a' w',erD D'=U→T a'→Inv cx D' [] a'.tmps w'→wpList P ops Q l2 a' w'):∀ (l:List Oper) (i:Nat) {D:DSt} {a:Act} {w:World},(∀ o∈l,∀ a y,T a→T (a.put o.dst y))→Inv cx D [] a.tmps w→T a →
   runOps tab fns C tk ops l i (erD D)=some U→wpList P ops Q (l++l2) a w
 | [],i,D,a,w,_,I,hd,e=>by cases e;exact hQ D a w rfl hd I
 | o::l,i,D,a,w,hT,I,hd,e=>by
  have hT':∀ o∈l,∀ a y,T a→T (a.put o.dst y):=fun o' h=>hT o' (by simp [h])
  have go:Region.wanted o (yielded ops a.tmps)=true→(Am.stepU tab fns C (erD D) o (tk i)).bind (Am.runOps tab fns C tk ops l (i+1))=some U→wpList P ops Q (o::(l++l2)) a w:=by
   intro hw e
   rw [Option.bind_eq_some_iff] at e
   obtain ⟨U1,e1,e2⟩:=e
   unfold wpList
   rw [if_pos hw]
   refine .inl (I.stepU ok hf hC e1 fun D' a' w' h1 h2 h3 => ?_)
   subst h1
   obtain ⟨y,rfl⟩:=h2
   exact Inv.runOps2 ok hf hC hQ l (i+1) hT' h3 (hT o (by simp) a y hd) e2
  show wpList P ops Q (o::(l++l2)) a w
  unfold Am.runOps at e
  split at e
  ·rename_i hg
   exact go (by simp [Region.wanted,hg]) e
  ·rename_i j want hg
   split at e
   case h_2=>cases e
   rename_i b hb
   have hy:yielded ops a.tmps j=b:=by
    rw [Option.bind_eq_some_iff] at hb
    obtain ⟨t,h1,h2⟩:=hb
    rw [qK] at h2
    have:=I.yieldAt h2
    unfold yielded
    rw [h1]
    exact this
   split at e
   ·rename_i hbw
    exact go (by simp [Region.wanted,hg,hy,hbw]) e
   ·rename_i hbw
    unfold wpList
    rw [if_neg (by simp [Region.wanted,hg,hy,hbw])]
    rw [Option.bind_eq_some_iff] at e
    obtain ⟨U1,e1,e2⟩:=e
    split at e1
    ·rename_i hdst
     cases e1
     rw [hdst]
     exact Inv.runOps2 ok hf hC hQ l (i+1) hT' I hd e2
    ·rename_i t hdst
     rw [dL] at e1
     split at e1
     case isFalse=>cases e1
     rename_i ht
     cases e1
     have:=I.putUndef ht
     have hd':=hT o (by simp) a undef hd
     rw [hdst] at hd' ⊢
     exact Inv.runOps2 (tk:=tk) ok hf hC hQ l (i+1) hT' this hd' (by rw [tD];exact e2)
theorem Inv.runOps {P:Program} {tab:Tab} (ok:a8 P tab) {fns:FuncId→Option Func} (hf:gG P fns) {B:Base} {C:Sem1} {cx:Cx} (hC:fB P B C cx) {tk:Nat→Bool} {ops:Array Oper} {Q:Exit→Act→World→Prop} {U:US}
  {T:Act→Prop} (hQ:∀ D' a' w',erD D'=U→T a'→Inv cx D' [] a'.tmps w'→Q .normal a' w') (l:List Oper) (i:Nat) {D:DSt} {a:Act} {w:World} (hT:∀ o∈l,∀ a y,T a→T (a.put o.dst y)) (I:Inv cx D [] a.tmps w) (hd:T a)
  (e:Am.runOps tab fns C tk ops l i (erD D)=some U):wpList P ops Q l a w:=by
 have:=Inv.runOps2 (l2:=[]) (Q:=Q) ok hf hC hQ l i hT I hd e
 rwa [List.append_nil] at this
end Go.Proofs.YtgaiiephdjllkaaGreatDoor.Am
namespace Go.Proofs.YtgaiiephdjllkaaGreatDoor.Am
set_option linter.unusedVariables false
set_option linter.unusedSimpArgs false
open Go
section
variable {δ β : Type}
def kill1 (D:St δ β) (t:Nat):St δ β:=if t<D.length then aL D (some t) .any else D
def killAll (l:List Nat) (D:St δ β):St δ β:=l.foldl kill1 D
theorem lF (D:St δ β) (t:Nat):(kill1 D t).length=D.length:=by
 unfold kill1
 split
 ·simp [aL,aM,St.dead]
 ·rfl
theorem lf (D:St δ β) (t u:Nat) (h:t<D.length):(kill1 D t)[u]?=if u=t then some .any else (D[u]?).map (Sl.clean t):=by
 unfold kill1
 rw [if_pos h]
 simp only [aL,aM]
 by_cases e:u=t
 ·subst e
  rw [if_pos rfl,List.getElem?_set_self (by simp [St.dead];exact h)]
  rfl
 ·rw [if_neg e,List.getElem?_set_ne (fun q=>e q.symm),List.getElem?_set_ne (fun q=>e q.symm)]
  simp only [St.dead,List.getElem?_map,Option.map_map]
  rfl
theorem pZ (l:List Nat):∀ (D:St δ β),(killAll l D).length=D.length:=by
 induction l with
 | nil=>intro D;rfl
 | cons a l ih=>intro D;simp only [killAll,List.foldl_cons];exact (ih _).trans (lF D a)
theorem rx:∀ (l:List Nat) {D D':St δ β},D.length=D'.length→(∀ u,u∉l→D[u]?=D'[u]?)→killAll l D=killAll l D'
 | [],D,D',hl,h=>List.ext_getElem? fun u=>h u (by simp)
 | a::l,D,D',hl,h=>by
  simp only [killAll,List.foldl_cons]
  refine rx l (by rw [lF,lF,hl]) fun u hu => ?_
  by_cases ha:a<D.length
  ·rw [lf D a u ha,lf D' a u (hl ▸ ha)]
   by_cases e:u=a
   ·rw [if_pos e,if_pos e]
   ·rw [if_neg e,if_neg e,h u (by simp [e,hu])]
  ·have ha':¬ a<D'.length:=hl ▸ ha
   unfold kill1
   rw [if_neg ha,if_neg ha']
   by_cases e:u=a
   ·subst e
    rw [List.getElem?_eq_none (by omega),List.getElem?_eq_none (by omega)]
   ·exact h u (by simp [e,hu])
end
theorem pn {δ β:Type} {t:Nat}:∀ (l:List Nat) {D:St δ β},t<D.length→t∈l∨D[t]?=some .any→(killAll l D)[t]?=some .any
 | [],D,_,h=>by
  rcases h with h | h
  ·cases h
  ·exact h
 | a::l,D,hl,h=>by
  simp only [killAll,List.foldl_cons]
  refine pn l (by rw [lF];exact hl) ?_
  by_cases ha:a<D.length
  ·rw [lf D a t ha]
   by_cases e:t=a
   ·right;rw [if_pos e]
   ·rw [if_neg e]
    rcases h with h | h
    ·left;simpa [e] using h
    ·right;rw [h];rfl
  ·rcases h with h | h
   ·left
    have:t≠a:=by omega
    simpa [this] using h
   ·right;unfold kill1;rw [if_neg ha];exact h
theorem Gb (D:DSt) (t:Nat):erD (kill1 D t)=kill1 (erD D) t:=by
 unfold kill1
 rw [dL]
 split
 ·exact bK D (some t) .any
 ·rfl
theorem ie (l:List Nat):∀ (D:DSt),erD (killAll l D)=killAll l (erD D):=by
 induction l with
 | nil=>intro D;rfl
 | cons a l ih=>intro D;simp only [killAll,List.foldl_cons];rw [← Gb];exact ih _
theorem Inv.kill1 {cx:Cx} {D:DSt} {tm:Array Value} {w:World} (I:Inv cx D [] tm w) (t:Nat):Inv cx (kill1 D t) [] tm w:=by
 unfold Am.kill1
 split
 ·exact I.lose ‹_›
 ·exact I
theorem Inv.killAll {cx:Cx} {tm:Array Value} {w:World} (l:List Nat):∀ {D:DSt},Inv cx D [] tm w→Inv cx (killAll l D) [] tm w:=by
 induction l with
 | nil=>intro D I;exact I
 | cons a l ih=>intro D I;simp only [Am.killAll,List.foldl_cons];exact ih (I.kill1 a)
theorem Cf {p:Nat→Nat→Bool} {t u:DT} (h:t.dead p=u) (ho:u.isOwn=true):t=u:=by
 cases t with
 | v x=>exact h
 | any=>exact h
 | s k d z r =>
  cases k with
  | own=>exact h
  | far=>exact h
  | lent h' c' fl =>
   simp only [T.dead] at h
   split at h<;>(subst h;cases ho)
theorem nQ {D:DSt} {t h c:Nat} {u:DT} (e:am (kill1 D t) h c=some u) (ho:u.isOwn=true):am D h c=some u:=by
 by_cases ht:t<D.length
 ·unfold am at e
  rw [lf D t h ht] at e
  by_cases hh:h=t
  ·rw [if_pos hh] at e;simp [aI] at e
  ·rw [if_neg hh] at e
   have:am D h c=(D[h]?.bind aI).bind (·[c]?):=rfl
   rw [this]
   cases hd:D[h]? with
   | none=>rw [hd] at e;simp at e
   | some s =>
    rw [hd] at e
    simp only [Option.map_some,Option.bind_some,Sl.clean,pX,pW] at e ⊢
    cases hc:aI s with
    | none=>rw [hc] at e;simp at e
    | some cs =>
     rw [hc] at e
     simp only [Option.map_some,Option.bind_some,List.getElem?_map] at e ⊢
     rw [Option.map_eq_some_iff] at e
     obtain ⟨u0,h1,h2⟩:=e
     rw [h1,Cf h2 ho]
 ·unfold kill1 at e
  rw [if_neg ht] at e
  exact e
theorem xy {D:DSt} {t h:Nat} {b:Nat×Nat} {ts:List DT} (e:(kill1 D t)[h]?=some (.box b ts)):∃ ts0,D[h]?=some (.box b ts0):=by
 by_cases ht:t<D.length
 ·rw [lf D t h ht] at e
  by_cases hh:h=t
  ·rw [if_pos hh] at e;cases e
  ·rw [if_neg hh,Option.map_eq_some_iff] at e
   obtain ⟨s,h1,h2⟩:=e
   rw [h1]
   cases s with
   | box b' ts'=>simp only [Sl.clean,Sl.dead,Sl.gone] at h2;cases h2;exact ⟨_,rfl⟩
   | al=>simp only [Sl.clean,Sl.dead] at h2;split at h2<;>cases h2
   | pe=>simp only [Sl.clean,Sl.dead] at h2;split at h2<;>cases h2
   | pb=>simp only [Sl.clean,Sl.dead,Sl.gone] at h2;split at h2<;>cases h2
   | clo=>simp only [Sl.clean,Sl.dead,Sl.gone] at h2;split at h2<;>cases h2
   | im k b ts off =>
    cases k with
    | lent=>simp only [Sl.clean,Sl.dead] at h2;split at h2<;>cases h2
    | _=>cases h2
   | _=>cases h2
 ·unfold kill1 at e
  rw [if_neg ht] at e
  exact ⟨ts,e⟩
theorem rD {D:DSt} {t h c:Nat} {st:List (Nat×Nat)} {d:Dec} {z n:Nat} (e:dt (kill1 D t) h c st d z n):dt D h c st d z n:=by
 obtain ⟨u,h1,h2,h3⟩:=e
 exact ⟨u,nQ h1 h2,h2,h3⟩
theorem FS {D:DSt} {t:Nat} {s:DSl} {y:Value} (h:VS (kill1 D t) s y):VS D s y:=by
 cases s with
 | al h' c st lo len=>obtain ⟨d,z,n,a,h1,h2⟩:=h;exact ⟨d,z,n,a,rD h1,h2⟩
 | pe h' c st i off=>obtain ⟨d,z,n,h1,h2⟩:=h;exact ⟨d,z,n,rD h1,h2⟩
 | pb h' off=>obtain ⟨b,ts,h1,h2⟩:=h;obtain ⟨ts0,h3⟩:=xy h1;exact ⟨b,ts0,h3,h2⟩
 | clo f hs =>
  obtain ⟨bs,h1,h2,h3⟩:=h
  refine ⟨bs,h1,fun i h' b hi hb => ?_,h3⟩
  obtain ⟨ts,h4⟩:=h2 i h' b hi hb
  exact xy h4
 | _=>exact h
theorem Bv {cx:Cx} {D:DSt} {t:Nat} {u:DT} (h:bg cx (kill1 D t) u):bg cx D u:=by
 cases u with
 | v x=>trivial
 | any=>trivial
 | s k d z r =>
  cases k with
  | own=>trivial
  | far=>exact h
  | lent h' c' fl=>obtain ⟨v,h1,h2,h3⟩:=h;exact ⟨v,nQ h1 h2,h2,h3⟩
theorem Bu {cx:Cx} {D:DSt} {t:Nat} {s:DSl} (h:dm cx (kill1 D t) s):dm cx D s:=by
 cases s with
 | im k b ts off =>
  cases k with
  | own=>exact h
  | far=>exact h
  | lent h' c' fl=>obtain ⟨v,h1,h2,h3⟩:=h;exact ⟨v,nQ h1 h2,h2,h3⟩
 | fni f caps=>exact h
 | _=>exact fun u hu=>Bv (h u hu)
theorem Tells.kill {cx:Cx} {w:World} {s:DSl} {y:Value} (l:List Nat):∀ {D:DSt},Tells cx (killAll l D) w s y→Tells cx D w s y:=by
 induction l with
 | nil=>intro D h;exact h
 | cons a l ih =>
  intro D h
  simp only [Am.killAll,List.foldl_cons] at h
  have h':=ih h
  exact ⟨FS h'.val,h'.mem,Bu h'.kind,h'.noown⟩
theorem pd {t:Nat} {s:DSl} (h:¬ b9 t s):s.clean t=s:=by
 have hT:∀ u:DT,¬ (∃ c fl d z r,u = .s (.lent t c fl) d z r)→u.dead (atH t)=u:=by
  intro u hu
  cases u with
  | v x=>rfl
  | any=>rfl
  | s k d z r =>
   cases k with
   | own=>rfl
   | far=>rfl
   | lent h' c' fl =>
    have hne:atH t h' c'=false:=by
     cases e:atH t h' c' with
     | false=>rfl
     | true =>
      have e:h'=t:=by simpa [atH] using e
      subst e
      exact absurd ⟨c',fl,d,z,r,rfl⟩ hu
    simp [T.dead,hne]
 have hL:∀ us:List DT,¬ (∃ u∈us,∃ c fl d z r,u = .s (.lent t c fl) d z r)→us.map (T.dead (atH t))=us:=by
  intro us hu
  conv=>rhs;rw [← List.map_id us]
  exact List.map_congr_left fun u hm=>hT u fun ⟨c,fl,d,z,r,e⟩=>hu ⟨u,hm,c,fl,d,z,r,e⟩
 unfold Sl.clean
 cases s with
 | any=>rfl
 | one u=>simp only [Sl.dead,Sl.gone];rw [hT u h]
 | agg ts=>simp only [Sl.dead,Sl.gone];rw [hL ts h]
 | box b ts=>simp only [Sl.dead,Sl.gone];rw [hL ts h]
 | al h' c st lo len =>
  have:¬ h'=t:=h
  simp [Sl.dead,Sl.gone,qH,this]
 | pe h' c st i off =>
  have:¬ h'=t:=h
  simp [Sl.dead,Sl.gone,qH,this]
 | pb h' off =>
  have:¬ h'=t:=h
  simp [Sl.dead,Sl.gone,this]
 | im k b ts off =>
  cases k with
  | own=>rfl
  | far=>rfl
  | lent h' c' fl =>
   have:¬ h'=t:=h
   simp [Sl.dead,Sl.gone,atH,this]
 | fni f caps=>rfl
 | clo f hs =>
  have:¬ t∈hs:=h
  simp [Sl.dead,Sl.gone,this]
 | tup rs =>
  simp only [Sl.dead,Sl.gone]
  congr 1
  conv=>rhs;rw [← List.map_id rs]
  refine List.map_congr_left fun r hr => ?_
  rw [hL r.2 fun ⟨u,hu,c,fl,d,z,r',e⟩=>h ⟨r,hr,u,hu,c,fl,d,z,r',e⟩]
  rfl
theorem kq {D:DSt} {t:Nat} {s:DSl} (hD:∀ s'∈D,¬ b9 t s') (hs:¬ b9 t s):aL D (some t) s=D.set t s:=by
 simp only [aL]
 rw [pd hs]
 have:(St.dead (atH t) (qH t) D).map (Sl.gone t)=D:=by
  simp only [St.dead,List.map_map]
  conv=>rhs;rw [← List.map_id D]
  exact List.map_congr_left fun s' hs'=>pd (hD s' hs')
 unfold aM
 rw [this,List.set_set]
def bz (ops:Array Oper) (j:Nat):List Nat :=
 match ops[j]? with
 | some o=>(o.after.toList.filter (Region.binds .any)).map (·.on)
 | none=>[]
def cp (ops:Array Oper) (m:Nat):List Nat:=(List.range m).filterMap fun i=>(ops[i]?).bind (·.dst)
section
variable {P : Program} {tab : Tab}
theorem yz (ok:a8 P tab) {cx:Cx} {D D':DSt} {a:Act} {w:World} (I:Inv cx D [] a.tmps w) {dst:Option Nat} {t:Nat} {l c:Operand}
  (e:dy mkD (frD w) tab D dst t l c=some D'):∃ y w' d dc z rows,dst=some d∧D'=aL D (some d) (.one (.s .own dc z rows))∧(Instr.makeSlice t (a.eval l) (a.eval c)).run P w = .ok y w'∧Grew w w'∧Et w w' (.s .own dc z rows) y:=by
 unfold dy at e
 split at e
 case h_2=>cases e
 rename_i sz by_ ze el d n k hti hl hc'
 split at e
 case h_2=>cases e
 rename_i te hte
 split at e
 case isFalse=>cases e
 rename_i hc
 split at e
 case isFalse=>cases e
 rename_i hn
 cases e
 obtain ⟨hd,hz0,hzl⟩:=hc
 obtain ⟨n1,n2,n3,n4⟩:=hn
 have hu:=ef (Tab.ok ok hti) rfl
 obtain ⟨i,d',z,g1,g2',g3',g4,g5,g2,g7,g3⟩:=ey (Tab.ok ok hte)
 have G:=ik (P:=P) (t:=el) (w:=w) (cx:=cx) (D:=D) (ys:=z.cells.toList) g3
 rw [← g2] at G
 have hzs:z.cells.size=te.size:=by rw [← hzl,g2];simp [cR]
 have hfine:∀ t∈te.zero.map (T.inj nilD),t.fine=true:=by
  intro t ht
  rw [g2] at ht
  simp only [List.mem_map,cR,List.mem_mapIdx] at ht
  obtain ⟨u,⟨j,hj,rfl⟩,rfl⟩:=ht
  unfold zT
  split<;>rfl
 obtain ⟨kl,el1⟩:=I.opInt hl
 obtain ⟨kc,el2⟩:=I.opInt hc'
 have hrun:=run_make w t el i z hu g1 g3' kl kc n k n1 n2 (by rw [g5];exact n3) (by omega)
 rw [← el1, ← el2] at hrun
 have R:=RowsAre.init G.v (by omega) k.toNat
 have hcs:(madeCells z.cells (k.toNat*i.size))=((Array.range (k.toNat*z.cells.size)).map (fun i=>z.cells[i % z.cells.size]!)):=by
  unfold madeCells;rw [g4,hzs]
 rw [hcs] at hrun
 rw [hzs] at R hrun
 generalize hcells:(Array.range (k.toNat*te.size)).map (fun i=>z.cells[i % te.size]!)=cells at R hrun
 have g:=Grew.alloc w (.cells cells el)
 have hnew:(w.alloc (.cells cells el)).heap[w.heap.size]?=some (.cells cells el (0,0)):=by
  show (w.heap.push _)[w.heap.size]?=_
  simp
 have hkn:n.toNat≤k.toNat:=by omega
 have hrow:∀ (i:Nat) (row:List DT),(List.replicate n.toNat (te.zero.map (T.inj nilD)))[i]?=some row→(List.replicate k.toNat (te.zero.map (T.inj nilD)))[i]?=some row:=by
  intro i row h
  rw [List.getElem?_replicate] at h ⊢
  split at h
  ·rw [if_pos (by omega)];exact h
  ·cases h
 have hB:∀ (i:Nat) (row:List DT) (j:Nat) (t:DT),(List.replicate n.toNat (te.zero.map (T.inj nilD)))[i]?=some row→row[j]?=some t→ux w t:=fun i row j t hi hj=>by
  have:=List.eq_of_mem_replicate (List.mem_of_getElem? hi)
  subst this
  exact G.bare hfine t (List.mem_of_getElem? hj)
 have hsz:cells.size=k.toNat*te.size:=by rw [← hcells];simp
 have hH:Holds (w.alloc (.cells cells el)) (.s .own ((frD w).row k.toNat) te.size (List.replicate n.toNat (te.zero.map (T.inj nilD)))):=by
  refine .s _ _ _ _ rfl rfl _ el (0,0) hnew (by simp [frD];omega) (fun i row h=>R.row i row (hrow i row h)) (fun i row j t hi hj => ?_) (fun i row j t hi hj=>(hB i row j t hi hj).holds.frame fun b _ hb=>g.same b hb)
  obtain ⟨y,y1,y2⟩:=R.val i row j t (hrow i row hi) hj
  exact ⟨y,by simpa [frD] using y1,y2⟩
 have hO:OwnT (w.alloc (.cells cells el)) (.s .own ((frD w).row k.toNat) te.size (List.replicate n.toNat (te.zero.map (T.inj nilD)))):=by
  refine .s _ _ _ rfl rfl _ el 0 0 hnew (by simp [frD];omega) (by simp [frD,hsz]) (fun x _ _ h=>by omega) (fun i row j t hi hj => ?_)
  have:=hB i row j t hi hj
  exact (mJ this.fine this.own).frame fun b _ hb=>g.same b hb
 have hnil:(List.replicate n.toNat (te.zero.map (T.inj mkD.nil))).flatMap (fun x=>x.flatMap Am.bl)=[]:=by
  rw [List.flatMap_eq_nil_iff]
  intro row hr
  rw [List.flatMap_eq_nil_iff]
  intro t ht
  obtain ⟨i,hi⟩:=List.getElem?_of_mem hr
  obtain ⟨j,hj⟩:=List.getElem?_of_mem ht
  exact (hB i row j t hi hj).bl
 refine ⟨_,_,d,(frD w).row k.toNat,te.size,_,rfl,rfl,hrun,g,⟨by simp [VT,Dec.addr,frD],hH,hO,?_,fun b hb => ?_⟩⟩
 ·intro b
  rw [bW,hnil]
  simp only [frD,Bool.false_eq_true,if_false,List.append_nil]
  rw [List.count_singleton]
  split<;>omega
 ·rw [bW,hnil] at hb
  simp [frD] at hb
  subst hb
  exact ⟨Nat.le_refl _,by simp⟩
end
def nU (M:US) (x:Operand) (i:Nat):Option (Sl Unit Unit) :=
 match x with
 | .tmp q =>
  match M[q]? with
  | some (.tup rs) =>
   match rs[i]? with
   | some (false,[.v y])=>some (.one (.v y))
   | _=>none
  | _=>none
 | _=>none
theorem BQ {M:US} {x:Operand} {i:Nat} {s:Sl Unit Unit} (h:nU M x i=some s):∃ q rs y,x = .tmp q∧M[q]?=some (.tup rs)∧rs[i]?=some (false,[.v y])∧s = .one (.v y):=by
 unfold nU at h
 split at h
 case h_2=>cases h
 rename_i q
 split at h
 case h_2=>cases h
 rename_i rs hM
 split at h
 case h_2=>cases h
 rename_i y hi
 cases h
 exact ⟨q,rs,y,rfl,hM,hi,rfl⟩
theorem yg {P:Program} {cx:Cx} {D:DSt} {a:Act} {w:World} (I:Inv cx D [] a.tmps w) {o:Oper} {x:Operand} {i:Nat} (hop:o.op = .extract x i) {s:Sl Unit Unit} (e:nU (erD D) x i=some s) :
  ∃ y,s = .one (.v y)∧(execOp a.eval o).run P w = .ok (.value y) w∧Tells cx D w (.one (.v y)) y:=by
 obtain ⟨q,rs,y,rfl,hM,hi,rfl⟩:=BQ e
 rw [bE,Option.map_eq_some_iff] at hM
 obtain ⟨sd,hD,he⟩:=hM
 obtain ⟨rsD,rfl,rfl⟩:∃ rsD,sd = .tup rsD∧rs=rsD.map fun r=>(r.1,erL r.2):=by
  cases sd with
  | tup rsD=>exact ⟨rsD,rfl,by simpa [Sl.er] using he.symm⟩
  | _=>simp [Sl.er] at he
 rw [List.getElem?_map,Option.map_eq_some_iff] at hi
 obtain ⟨⟨g,ts⟩,hr,h2⟩:=hi
 simp only [Prod.mk.injEq] at h2
 obtain ⟨rfl,h2⟩:=h2
 have h3:ts=[.v y]:=by
  match ts,h2 with
  | [],h2=>simp at h2
  | [t],h2 =>
   simp only [List.map_cons,List.map_nil,List.cons.injEq,and_true] at h2
   cases t with
   | v x=>rw [dg] at h2;cases h2;rfl
   | any=>cases h2
   | s k d z r=>rw [au] at h2;cases h2
  | t::t2::r,h2=>simp at h2
 subst h3
 obtain ⟨vs,hy,hlen,hpart⟩:=I.val q _ hD
 have hil:i<rsD.length:=by
  rcases Nat.lt_or_ge i rsD.length with g | g
  ·exact g
  ·rw [List.getElem?_eq_none g] at hr;cases hr
 have hp:=hpart i _ vs.toList[i] hr (List.getElem?_eq_getElem (by omega))
 simp only [VPart,Bool.false_eq_true,if_false] at hp
 obtain ⟨t',h5,h6⟩:=hp
 simp only [List.cons.injEq,and_true] at h5
 subst h5
 have hev:a.eval (.tmp q) = .tuple vs:=hy
 have hv:vs[i]?=some y:=by
  have h7:vs.toList[i]=y:=h6.1
  rw [← h7]
  simp
 refine ⟨y,rfl,?_,Tells.one (t := .v y) ⟨rfl,by have h7:vs.toList[i]=y:=h6.1;have h8:=h6.2;rw [h7] at h8;exact h8⟩ (.v _) trivial rfl⟩
 simp [execOp,hop,hev,Instr.extract,hv]
def stepV (tab:Tab) (fns:FuncId→Option Func) (C:Sem1) (M:US) (o:Oper):Option (Sl Unit Unit) :=
 match callTo M o with
 | some (f,xs,caps)=>if (fns f).isSome∧tab.io.lookup f=none then (argsW mkU tab f M xs).bind fun as=>(C f (as++ims caps)).bind fun rs=>mC mkU rs else none
 | none =>
  match o.op with
  | .buildSlice t len parts =>
   match o.dst with
   | some d=>(dw mkU frU tab M (some d) t len parts.toList).bind fun U=>match U[d]? with | some (.one u)=>if u.isOwn then some (.one u) else none | _=>none
   | none=>none
  | .makeSlice t l c =>
   match o.dst with
   | some d=>(dy mkU frU tab M (some d) t l c).bind fun U=>match U[d]? with | some (.one u)=>if u.isOwn then some (.one u) else none | _=>none
   | none=>none
  | .alloc bt=>(tab.ti bt).map fun ti => .box () (ti.zero.map (T.inj ()))
  | .extract x i=>nU M x i
  | .move x=>match gi M x with | some rs=>some (.tup rs) | none=>bA mkU tab M (.move x)
  | op=>bA mkU tab M op
def zS (ops:Array Oper) (M:US) (o:Oper) (K:Option (Sl Unit Unit)):Option (Sl Unit Unit) :=
 match o.guard with
 | none=>K
 | some (j,want) =>
  match ((ops[j]?).bind (·.dst)).bind (yieldAt M) with
  | some b=>if b=some want then K else some (.tup [])
  | none=>none
theorem AT {rd:cS} (hf:∀ r∈rd,∀ t∈r.2,t.fine=true) {s:DSl} (h:mC mkD rd=some s) (t:Nat):¬ b9 t s:=by
 have hno:∀ r∈rd,∀ u∈r.2,¬ ∃ c fl d z r,u=(.s (.lent t c fl) d z r:DT):=by
  rintro r hr u hu ⟨c,fl,d,z,r',rfl⟩
  exact absurd (hf r hr _ hu) (by simp [T.fine])
 unfold mC at h
 split at h
 ·rename_i r
  split at h
  ·rename_i b row hp
   cases h
   rintro ⟨u,hu,c,fl,d,z,r',rfl⟩
   unfold qZ at hp
   split at hp
   case h_2=>cases hp
   unfold nJ at hp
   split at hp
   case h_2=>cases hp
   split at hp
   case isFalse=>cases hp
   rename_i hf'
   cases hp
   exact absurd (List.all_eq_true.1 hf' _ hu) (by simp [T.fine])
  obtain ⟨g,ts⟩:=r
  cases g with
  | true=>cases h;exact fun ⟨u,hu,e⟩=>hno _ (List.mem_singleton_self _) u hu e
  | false =>
   match ts,h with
   | [u],h=>cases h;exact fun e=>hno _ (List.mem_singleton_self _) u (List.mem_singleton_self _) e
 ·cases h
  exact fun ⟨r,hr,u,hu,e⟩=>hno r hr u hu e
theorem Inv.stepV {P:Program} {tab:Tab} (ok:a8 P tab) {fns:FuncId→Option Func} (hf:gG P fns) {B:Base} {C:Sem1} {cx:Cx} (hC:fB P B C cx) {D:DSt} {a:Act} {w:World} (I:Inv cx D [] a.tmps w)
  {l:List Nat} {o:Oper} {t:Nat} (hd:o.dst=some t) (ha:D[t]?=some .any) {s:Sl Unit Unit} (e:Am.stepV tab fns C (Am.killAll l (erD D)) o=some s) {K:Act→World→Prop} {Q:Exit→Act→World→Prop}
  (hK:∀ D' a' w',erD D'=(erD D).set t s→(∃ y,a'=a.put o.dst y)→Inv cx D' [] a'.tmps w'→K a' w'):o.wp P a w K Q:=by
 have htl:t<D.length:=by
  rcases Nat.lt_or_ge t D.length with g | g
  ·exact g
  ·rw [List.getElem?_eq_none g] at ha;cases ha
 rw [← ie] at e
 have IM:=I.killAll l
 unfold Am.stepV at e
 split at e
 ·rename_i f xs caps hc
  split at e
  case isFalse=>cases e
  rename_i hfs
  obtain ⟨fn,hfn⟩:=Option.isSome_iff_exists.1 hfs.1
  obtain ⟨p1,p2,p3⟩:=hf f fn hfn
  rw [Option.bind_eq_some_iff] at e
  obtain ⟨as,h1,e⟩:=e
  rw [Option.bind_eq_some_iff] at e
  obtain ⟨rs,h2,h3⟩:=e
  rw [zx] at h1
  obtain ⟨ad,h1',rfl⟩:=Option.map_eq_some_iff.1 h1
  obtain ⟨hA,hN⟩:=IM.argsW (Out.nil cx _) h1'
  obtain ⟨c,x,capsD,hop,hcal,rfl,rfl,hfa,hev⟩:=IM.callTo hc
  have hA2:=hA.ims hfa
  have hN2:∀ s∈ad++ims capsD,s.isHome=false:=fun s hs=>(List.mem_append.1 hs).elim (hN s) (Ac s)
  have hcall:=hC.1 f _ rs h2 w [] (ad++ims capsD) _ (hC.2.at I (Out.nil cx D)) (by rw [List.map_append,EN]) hA2
  have hex:=xW (w:=w) hop hcal hev p1 p2 p3
  unfold Oper.wp
  rw [hex]
  refine hcall.mono ?_
  rintro e w' ⟨v,od,rd,rfl,g,hr,hO,R⟩
  have:=OutsOk.none hN2 hO
  subst this
  rw [wH] at hr
  subst hr
  rw [zI] at h3
  obtain ⟨sd,h3',rfl⟩:=Option.map_eq_some_iff.1 h3
  have hput:Am.putRet mkD D o.dst rd=some (aL D (some t) sd):=by
   rw [hd];simp only [Am.putRet];rw [if_pos htl,h3'];rfl
  have I2:=I.putRet (a:=a) g.grew R hput
  have hq:aL D (some t) sd=D.set t sd:=kq (fun s' hs'=>by
   obtain ⟨u,hu⟩:=List.getElem?_of_mem hs'
   exact I.any_refs ha (I.val u s' hu) (I.kind s' hs')) (AT (by simpa using R.fine) h3' t)
  rw [hq] at I2
  exact hK _ _ _ (eH D t sd) ⟨_,rfl⟩ I2
 ·split at e
  ·rename_i bt len parts hop
   rw [hd] at e
   simp only at e
   rw [Option.bind_eq_some_iff] at e
   obtain ⟨U,k1,k2⟩:=e
   rw [oI w] at k1
   obtain ⟨DM',k3,rfl⟩:=Option.map_eq_some_iff.1 k1
   obtain ⟨y,w',d',dc,z,rows,j1,j2,j3,j4,j5⟩:=wD ok IM k3
   cases j1
   subst j2
   have hget:(erD (aL (Am.killAll l D) (some t) (.one (.s .own dc z rows))))[t]?=some (.one (.s .own () z (rows.map erL))):=by
    rw [bE]
    have hl:t<(aM t (Am.killAll l D)).length:=by simp [aM,St.dead,pZ];exact htl
    simp only [aL]
    rw [List.getElem?_set_self hl]
    simp [Sl.clean,Sl.dead,Sl.gone,T.dead,Sl.er,au]
   rw [hget] at k2
   simp only [T.isOwn,if_true] at k2
   cases k2
   have R:RetOk w [] w' [] [] [(false,[(.s .own dc z rows:DT)])] y:=by
    refine ⟨.inl ⟨_,rfl,?_⟩,fun r hr u hu => ?_,fun r hr u hu => ?_,fun r hr u hu _ => ?_,fun b => ?_,fun b hb => ?_⟩
    ·simp only [VPart,Bool.false_eq_true,if_false]
     exact ⟨_,rfl,j5.val⟩
    ·rw [List.nil_append,List.mem_singleton] at hr;subst hr;rw [List.mem_singleton] at hu;subst hu;rfl
    ·rw [List.nil_append,List.mem_singleton] at hr;subst hr;rw [List.mem_singleton] at hu;subst hu;exact j5.holds
    ·rw [List.nil_append,List.mem_singleton] at hr;subst hr;rw [List.mem_singleton] at hu;subst hu;exact j5.own
    ·simpa [ownR,T.isOwn,ba] using j5.once b
    ·have:=j5.new b (by simpa [ownR,T.isOwn,ba] using hb)
     exact ⟨.inl this.1,this.2⟩
   have hput:Am.putRet mkD D o.dst [(false,[(.s .own dc z rows:DT)])]=some (aL D (some t) (.one (.s .own dc z rows))):=by
    rw [hd];simp only [Am.putRet];rw [if_pos htl];rfl
   have I2:=I.putRet (a:=a) j4 R hput
   have hq:aL D (some t) (.one (.s .own dc z rows))=D.set t (.one (.s .own dc z rows)):=kq (fun s' hs'=>by
    obtain ⟨u,hu⟩:=List.getElem?_of_mem hs'
    exact I.any_refs ha (I.val u s' hu) (I.kind s' hs')) (fun ⟨c,fl,d,z,r,h⟩=>by cases h)
   rw [hq] at I2
   have hex:(execOp a.eval o).run P w = .ok (.value y) w':=by simp [execOp,hop,j3]
   unfold Oper.wp
   rw [hex]
   exact hK _ _ _ (by rw [eH];simp [Sl.er,au]) ⟨_,rfl⟩ I2
  ·rename_i bt lo hi hop
   rw [hd] at e
   simp only at e
   rw [Option.bind_eq_some_iff] at e
   obtain ⟨U,k1,k2⟩:=e
   rw [pQ w] at k1
   obtain ⟨DM',k3,rfl⟩:=Option.map_eq_some_iff.1 k1
   obtain ⟨y,w',d',dc,z,rows,j1,j2,j3,j4,j5⟩:=yz ok IM k3
   cases j1
   subst j2
   have hget:(erD (aL (Am.killAll l D) (some t) (.one (.s .own dc z rows))))[t]?=some (.one (.s .own () z (rows.map erL))):=by
    rw [bE]
    have hl:t<(aM t (Am.killAll l D)).length:=by simp [aM,St.dead,pZ];exact htl
    simp only [aL]
    rw [List.getElem?_set_self hl]
    simp [Sl.clean,Sl.dead,Sl.gone,T.dead,Sl.er,au]
   rw [hget] at k2
   simp only [T.isOwn,if_true] at k2
   cases k2
   have R:RetOk w [] w' [] [] [(false,[(.s .own dc z rows:DT)])] y:=by
    refine ⟨.inl ⟨_,rfl,?_⟩,fun r hr u hu => ?_,fun r hr u hu => ?_,fun r hr u hu _ => ?_,fun b => ?_,fun b hb => ?_⟩
    ·simp only [VPart,Bool.false_eq_true,if_false]
     exact ⟨_,rfl,j5.val⟩
    ·rw [List.nil_append,List.mem_singleton] at hr;subst hr;rw [List.mem_singleton] at hu;subst hu;rfl
    ·rw [List.nil_append,List.mem_singleton] at hr;subst hr;rw [List.mem_singleton] at hu;subst hu;exact j5.holds
    ·rw [List.nil_append,List.mem_singleton] at hr;subst hr;rw [List.mem_singleton] at hu;subst hu;exact j5.own
    ·simpa [ownR,T.isOwn,ba] using j5.once b
    ·have:=j5.new b (by simpa [ownR,T.isOwn,ba] using hb)
     exact ⟨.inl this.1,this.2⟩
   have hput:Am.putRet mkD D o.dst [(false,[(.s .own dc z rows:DT)])]=some (aL D (some t) (.one (.s .own dc z rows))):=by
    rw [hd];simp only [Am.putRet];rw [if_pos htl];rfl
   have I2:=I.putRet (a:=a) j4 R hput
   have hq:aL D (some t) (.one (.s .own dc z rows))=D.set t (.one (.s .own dc z rows)):=kq (fun s' hs'=>by
    obtain ⟨u,hu⟩:=List.getElem?_of_mem hs'
    exact I.any_refs ha (I.val u s' hu) (I.kind s' hs')) (fun ⟨c,fl,d,z,r,h⟩=>by cases h)
   rw [hq] at I2
   have hex:(execOp a.eval o).run P w = .ok (.value y) w':=by simp [execOp,hop,j3]
   unfold Oper.wp
   rw [hex]
   exact hK _ _ _ (by rw [eH];simp [Sl.er,au]) ⟨_,rfl⟩ I2
  ·rename_i bt hop
   rw [Option.map_eq_some_iff] at e
   obtain ⟨ti,hti,rfl⟩:=e
   have hal:k7 mkD (frD w) tab D (some t) bt=some (aL D (some t) (.box (frD w).box (ti.zero.map (T.inj mkD.nil)))):=by
    simp only [k7,hti]
    rw [if_pos htl]
   obtain ⟨y,w',h1,h2⟩:=tT ok I hal
   obtain ⟨z,g1,g2,g3⟩:=qn (Tab.ok ok hti) w
   have hfine:∀ t∈ti.zero.map (T.inj mkD.nil),t.fine=true:=by
    intro t ht
    rw [g2] at ht
    simp only [List.mem_map,cR,List.mem_mapIdx] at ht
    obtain ⟨u,⟨j,hj,rfl⟩,rfl⟩:=ht
    unfold zT
    split<;>rfl
   have hq:aL D (some t) (.box (frD w).box (ti.zero.map (T.inj mkD.nil)))=D.set t (.box (frD w).box (ti.zero.map (T.inj mkD.nil))):=kq (fun s' hs'=>by
    obtain ⟨u,hu⟩:=List.getElem?_of_mem hs'
    exact I.any_refs ha (I.val u s' hu) (I.kind s' hs')) (fun ⟨u,hu,c,fl,d,z,r,h⟩=>by
     have:=hfine u hu
     rw [h] at this
     simp [T.fine] at this)
   rw [hq] at h2
   have hex:(execOp a.eval o).run P w = .ok (.value y) w':=by simp [execOp,hop,h1]
   unfold Oper.wp
   rw [hex]
   rw [← hd] at h2
   exact hK _ _ _ (by
    rw [eH]
    show (erD D).set t (.box () (erL (ti.zero.map (T.inj mkD.nil))))=_
    rw [← l8]) ⟨_,rfl⟩ h2
  ·rename_i x i hop
   obtain ⟨y,rfl,h1,h2⟩:=yg (P:=P) IM hop e
   have h3:=h2.kill l
   unfold Oper.wp
   rw [h1]
   have I2:Inv cx (Am.putA D t (.one (.v y))) [] (a.put (some t) y).tmps w:=I.putA htl h3
   have hq:Am.putA D t (.one (.v y))=D.set t (.one (.v y)):=by unfold Am.putA;rw [ha]
   rw [hq, ← hd] at I2
   exact hK _ _ _ (by rw [eH];simp [Sl.er,dg]) ⟨_,rfl⟩ I2
  ·rename_i x hop
   rw [vu] at e
   have I3:∀ (sd:DSl) (y:Value),(execOp a.eval o).run P w = .ok (.value y) w→Tells cx (Am.killAll l D) w sd y→s=sd.er→o.wp P a w K Q:=fun sd y h1 h2 he=>by
    have h3:=h2.kill l
    unfold Oper.wp
    rw [h1]
    have I2:Inv cx (Am.putA D t sd) [] (a.put (some t) y).tmps w:=I.putA htl h3
    have hq:Am.putA D t sd=D.set t sd:=by unfold Am.putA;rw [ha]
    rw [hq, ← hd] at I2
    exact hK _ _ _ (by rw [eH,he]) ⟨_,rfl⟩ I2
   cases hT:gi (Am.killAll l D) x with
   | some rs =>
    rw [hT] at e
    simp only [Option.map_some,Option.some.injEq] at e
    exact I3 (.tup rs) (a.eval x) (by simp [execOp,hop]) (x7 IM hT) e.symm
   | none =>
    rw [hT] at e
    simp only [Option.map_none] at e
    rw [uC] at e
    obtain ⟨sd,e',rfl⟩:=Option.map_eq_some_iff.1 e
    rw [← hop] at e'
    obtain ⟨y,h1,h2⟩:=my ok IM e'
    exact I3 sd y h1 h2 rfl
  rw [uC] at e
  obtain ⟨sd,e',rfl⟩:=Option.map_eq_some_iff.1 e
  obtain ⟨y,h1,h2⟩:=my ok IM e'
  have h3:=h2.kill l
  unfold Oper.wp
  rw [h1]
  have I2:Inv cx (Am.putA D t sd) [] (a.put (some t) y).tmps w:=I.putA htl h3
  have hq:Am.putA D t sd=D.set t sd:=by unfold Am.putA;rw [ha]
  rw [hq, ← hd] at I2
  exact hK _ _ _ (eH D t sd) ⟨_,rfl⟩ I2
end Go.Proofs.YtgaiiephdjllkaaGreatDoor.Am
namespace Go.Proofs.YtgaiiephdjllkaaGreatDoor.Am
set_option linter.unusedVariables false
set_option linter.unusedSimpArgs false
open Go
section
variable {δ β : Type}
def T.isV:T δ→Bool
 | .v _=>true
 | _=>false
def eT:Sl δ β→Option (List (T δ))
 | .one u=>if u.isOwn=true then some [u] else none
 | .agg ts=>if ts.all (fun t=>t.isOwn || t.isV)=true then some ts else none
 | _=>none
def gr:Sl δ β→Option (T δ)
 | .one (.v x)=>some (.v x)
 | _=>none
def eb (rd:Nat→Option (Sl δ β)) (pl:List (Nat×Nat)):List (Nat×Operand)→List (T δ)→Option (List (T δ))
 | [],ts=>some ts
 | (i,x)::r,ts =>
  match x with
  | .tmp q =>
   match pl[i]?,(rd q).bind gr with
   | some (off,size),some t=>if 1=size∧off+1≤ts.length then eb rd pl r (ao ts off [t]) else none
   | _,_=>none
  | _=>none
def qr (rs:List (Bool×List (T δ))):Bool:=rs.all (fun r=>r.2.all fun t=>t.isOwn || t.isV) && !(rs.all fun r=>r.2.all T.flat)
def gX:Sl δ β→Option (List (Bool×List (T δ)))
 | .tup rs=>if qr rs=true then some rs else none
 | _=>none
def takeSlot (o:Oper):Option Nat :=
 match o.op with
 | .buildSlice _ _ parts=>match parts.toList with | [(0,.tmp u)]=>some u | _=>none
 | .build _ parts=>match parts.toList with | (_,.tmp u)::_=>some u | _=>none
 | .move x=>match x with | .tmp u=>some u | _=>none
 | _=>none
def nk (M:Mk δ β) (F:jw δ β) (tab:Tab) (rd:Nat→Option (Sl δ β)) (o:Oper):Option (Sl δ β) :=
 match o.op with
 | .buildSlice t len parts =>
  match tab.ti t,parts.toList with
  | some ⟨_,_,_,.slice e⟩,[(0,.tmp u)] =>
   match tab.ti e,(rd u).bind eT with
   | some te,some us=>if len=1∧te.size≠0∧te.zero.length=te.size∧te.size≤2 ^ 24∧us.length=te.size then some (.one (.s .own (F.row 1) te.size [us])) else none
   | _,_=>none
  | _,_=>none
 | .build t parts =>
  match tab.ti t,tab.pl t,parts.toList with
  | some ti,some pl,(i,.tmp u)::r =>
   match pl[i]?,(rd u).bind eT with
   | some (off,size),some us =>
    if us.length=size∧off+us.length≤(ti.zero.map (T.inj M.nil)).length then (eb rd pl r (ao (ti.zero.map (T.inj M.nil)) off us)).map fun ts => .agg ts else none
   | _,_=>none
  | _,_,_=>none
 | .move x=>match x with | .tmp u=>((rd u).bind gX).map .tup | _=>none
 | _=>none
theorem Fw {x:Sl δ β} {t:T δ} (h:gr x=some t):∃ y,x = .one (.v y)∧t = .v y:=by
 unfold gr at h
 split at h
 ·cases h;exact ⟨_,rfl,rfl⟩
 ·cases h
theorem oX {rd rd':Nat→Option (Sl δ β)} (hr:∀ q x,rd q=some x→(gr x).isSome=true→rd' q=some x) {pl:List (Nat×Nat)}:∀ (r:List (Nat×Operand)) {ts us:List (T δ)},
  eb rd pl r ts=some us→eb rd' pl r ts=some us
 | [],ts,us,h=>h
 | (i,x)::r,ts,us,h=>by
  simp only [eb] at h ⊢
  split at h
  ·rename_i q
   split at h
   ·rename_i off size t hp hq
    rw [Option.bind_eq_some_iff] at hq
    obtain ⟨y,h1,h2⟩:=hq
    have h3:=hr q y h1 (by rw [h2];rfl)
    simp only [hp,h3,Option.bind_some,h2]
    split at h
    ·rename_i hc
     rw [if_pos hc]
     exact oX hr r h
    ·cases h
   ·cases h
  ·cases h
theorem FO {M:Mk δ β} {F:jw δ β} {tab:Tab} {rd rd':Nat→Option (Sl δ β)} (hr:∀ q x,rd q=some x→(gr x).isSome=true→rd' q=some x) (hw:∀ q x,rd q=some x→(eT x).isSome=true→rd' q=some x) (ht:∀ q x,rd q=some x→(gX x).isSome=true→rd' q=some x) {o:Oper} {s:Sl δ β}
  (h:nk M F tab rd o=some s):nk M F tab rd' o=some s:=by
 unfold nk at h ⊢
 split at h
 ·split at h
  ·rename_i hti hp
   split at h
   ·rename_i te us hte hu
    rw [Option.bind_eq_some_iff] at hu
    obtain ⟨y,h1,h2⟩:=hu
    have h3:=hw _ y h1 (by rw [h2];rfl)
    simp only [hti,hp,hte,h3,Option.bind_some,h2]
    exact h
   ·cases h
  ·cases h
 ·split at h
  ·rename_i ti pl i u r hti hpl hp
   split at h
   ·rename_i off size us hi hu
    rw [Option.bind_eq_some_iff] at hu
    obtain ⟨y,h1,h2⟩:=hu
    have h3:=hw _ y h1 (by rw [h2];rfl)
    simp only [hti,hpl,hp,hi,h3,Option.bind_some,h2]
    split at h
    ·rename_i hc
     rw [if_pos hc]
     rw [Option.map_eq_some_iff] at h ⊢
     obtain ⟨ts,h4,h5⟩:=h
     exact ⟨ts,oX hr r h4,h5⟩
    ·cases h
   ·cases h
  ·cases h
 ·split at h
  ·rename_i u
   rw [Option.map_eq_some_iff] at h
   obtain ⟨rs,hu,rfl⟩:=h
   rw [Option.bind_eq_some_iff] at hu
   obtain ⟨y,h1,h2⟩:=hu
   rw [ht _ y h1 (by rw [h2];rfl),Option.bind_some,h2]
   rfl
  ·cases h
 ·cases h
theorem ua (u:Nat) (D:St δ β):(aM u D).length=D.length:=by simp [aM,St.dead]
theorem zQ {D:St δ β} {u q:Nat} {x:Value} (h:D[q]?=some (.one (.v x))) (hne:q≠u):(aM u D)[q]?=some (.one (.v x)):=by
 unfold aM
 rw [List.getElem?_set_ne (fun e=>hne e.symm)]
 simp only [St.dead,List.getElem?_map,h,Option.map_some]
 rfl
theorem Ci {M:Mk δ β} {D:St δ β} {q:Nat} {x:Value} (h:D[q]?=some (.one (.v x))):cellsCopy M D (.tmp q)=some (false,[.v x]):=by
 simp only [cellsCopy,opd,nR,h]
theorem nO {M:Mk δ β} {D:St δ β} {u:Nat} (hu:∀ x,D[u]?≠some (.one (.v x))) {pl:List (Nat×Nat)}:∀ (r:List (Nat×Operand)) {ts us:List (T δ)},eb (fun q=>D[q]?) pl r ts=some us→bO M (aM u D) pl r ts=some us
 | [],ts,us,h=>h
 | (i,x)::r,ts,us,h=>by
  simp only [eb] at h
  simp only [bO]
  split at h
  ·rename_i q
   split at h
   ·rename_i off size t hp hq
    rw [Option.bind_eq_some_iff] at hq
    obtain ⟨y,h1,h2⟩:=hq
    obtain ⟨v,rfl,rfl⟩:=Fw h2
    have hne:q≠u:=fun e=>hu v (e ▸ h1)
    rw [hp,Ci (zQ h1 hne)]
    simp only
    split at h
    ·rename_i hc
     rw [if_pos (by simpa using hc)]
     exact nO hu r h
    ·cases h
   ·cases h
  ·cases h
theorem uw {M:Mk δ β} {D:St δ β} {u:Nat} {x:Sl δ β} {us:List (T δ)} (h:D[u]?=some x) (hw:eT x=some us):(∃ g,cellsTake M D (.tmp u)=some (g,us,aM u D))∧us.all (fun t=>t.isOwn || t.flat)=true∧∀ y,D[u]?≠some (.one (.v y)):=by
 unfold eT at hw
 split at hw
 ·rename_i t
  split at hw
  ·rename_i ho
   cases hw
   refine ⟨⟨false,?_⟩,by simp [ho],fun y e => ?_⟩
   ·simp only [cellsTake,h]
    rw [if_pos ho]
   ·rw [h] at e;cases e;cases ho
  ·cases hw
 ·rename_i ts
  split at hw
  ·rename_i ha
   cases hw
   refine ⟨⟨true,?_⟩,?_,fun y e => ?_⟩
   ·simp only [cellsTake,h]
    rw [if_pos]
    rw [List.all_eq_true] at ha ⊢
    intro t ht
    have:=ha t ht
    cases t with
    | v x=>rfl
    | any=>rfl
    | s k d z r=>cases k<;>first | rfl | (simp [T.isOwn,T.isV] at this)
   ·rw [List.all_eq_true] at ha ⊢
    intro t ht
    have:=ha t ht
    cases t with
    | v x=>rfl
    | any=>simp [T.isOwn,T.isV] at this
    | s k d z r=>cases k<;>first | rfl | (simp [T.isOwn,T.isV] at this)
   ·rw [h] at e;cases e
  ·cases hw
 ·cases hw
theorem FP {x:Sl δ β} {rs:List (Bool×List (T δ))} (h:gX x=some rs):x = .tup rs∧(rs.all fun r=>r.2.all T.noLent)=true∧(rs.all fun r=>r.2.all T.flat)=false:=by
 unfold gX at h
 split at h
 ·rename_i rs'
  split at h
  ·rename_i hp
   cases h
   unfold qr at hp
   rw [Bool.and_eq_true] at hp
   refine ⟨rfl,?_,by simpa using hp.2⟩
   rw [List.all_eq_true]
   intro r hr
   rw [List.all_eq_true]
   intro t ht
   have:=List.all_eq_true.1 (List.all_eq_true.1 hp.1 r hr) t ht
   cases t with
   | v x=>rfl
   | any=>rfl
   | s k d z r=>cases k<;>first | rfl | (simp [T.isOwn,T.isV] at this)
  ·cases h
 ·cases h
theorem yS {M:Mk δ β} {F:jw δ β} {tab:Tab} {D:St δ β} {o:Oper} {t u:Nat} (hd:o.dst=some t) (hu:takeSlot o=some u) (ht:t<D.length) {s:Sl δ β} (hq:aM u D=D.set u .any) (h:nk M F tab (fun q=>D[q]?) o=some s) :
  cv M F tab D o true=some (aL (aM u D) (some t) s):=by
 unfold nk at h
 unfold takeSlot at hu
 unfold cv
 split at h
 ·rename_i bt len parts hop
  simp only [hop] at hu ⊢
  split at h
  ·rename_i sz by_ ze e u' hti hp
   simp only [hp] at hu
   cases hu
   split at h
   ·rename_i te us hte hus
    rw [Option.bind_eq_some_iff] at hus
    obtain ⟨x,h1,h2⟩:=hus
    obtain ⟨⟨g,h3⟩,h4,_⟩:=uw (M:=M) h1 h2
    split at h
    ·rename_i hc
     cases h
     rw [if_pos trivial]
     simp only [gA,hti,hd,hp,hte,h3]
     rw [if_pos ⟨hc.1,by rw [ua];exact ht,hc.2.1,hc.2.2.1,hc.2.2.2.1,hc.2.2.2.2,h4⟩]
    ·cases h
   ·cases h
  ·cases h
 ·rename_i bt parts hop
  simp only [hop] at hu ⊢
  split at h
  ·rename_i ti pl i u' r hti hpl hp
   simp only [hp] at hu
   cases hu
   split at h
   ·rename_i off size us hi hus
    rw [Option.bind_eq_some_iff] at hus
    obtain ⟨x,h1,h2⟩:=hus
    obtain ⟨⟨g,h3⟩,h4,h5⟩:=uw (M:=M) h1 h2
    split at h
    ·rename_i hc
     rw [Option.map_eq_some_iff] at h
     obtain ⟨ts,h6,rfl⟩:=h
     rw [if_pos trivial]
     refine zm ?_
     simp only [lq,hti,hpl,hp,hd,hi,h3]
     rw [if_pos ⟨hc.1,hc.2,by rw [ua];exact ht⟩,nO h5 r h6]
     rfl
    ·cases h
   ·cases h
  ·cases h
 ·rename_i x hop
  simp only [hop] at hu ⊢
  split at h
  ·rename_i u'
   cases hu
   rw [Option.map_eq_some_iff] at h
   obtain ⟨rs,hu,rfl⟩:=h
   rw [Option.bind_eq_some_iff] at hu
   obtain ⟨y,h1,h2⟩:=hu
   obtain ⟨rfl,h3,h4⟩:=FP h2
   have e1:oj tab o.type (.tmp u)=none:=rfl
   have e2:gi D (.tmp u)=none:=by
    simp only [gi,h1]
    rw [if_neg (fun q=>by rw [h4] at q;cases q.1)]
   have e3:jX D (.tmp u) o.dst=some (aL (D.set u .any) (some t) (.tup rs)):=by
    simp only [jX,hd,h1]
    rw [if_pos ⟨ht,h3⟩]
   simp only [e1,e2,e3,if_true]
   rw [hq]
  ·cases h
 ·cases h
end
theorem EO (t:DT):t.er.isV=t.isV:=by
 cases t with
 | v x=>rfl
 | any=>rfl
 | s k d z r=>simp [au,T.isV]
theorem EY (x:DSl):eT x.er=(eT x).map erL:=by
 cases x with
 | one u =>
  simp only [Sl.er,eT,cu]
  split<;>rfl
 | agg ts =>
  simp only [Sl.er,eT]
  have:(erL ts).all (fun t=>t.isOwn || t.isV)=ts.all (fun t=>t.isOwn || t.isV):=by
   show (ts.map T.er).all _=_
   rw [List.all_map]
   congr 1
   funext t
   show (t.er.isOwn || t.er.isV)=_
   rw [cu,EO]
  rw [this]
  split<;>rfl
 | _=>rfl
theorem EZ (x:DSl):gX x.er=(gX x).map (List.map fun r=>(r.1,erL r.2)):=by
 cases x with
 | tup rs =>
  simp only [Sl.er,gX]
  have e1:∀ l:List DT,(erL l).all (fun t=>t.isOwn || t.isV)=l.all (fun t=>t.isOwn || t.isV):=fun l=>by
   show (l.map T.er).all _=_
   rw [List.all_map]
   congr 1
   funext t
   show (t.er.isOwn || t.er.isV)=_
   rw [cu,EO]
  have e2:∀ l:List DT,(erL l).all T.flat=l.all T.flat:=fun l=>by
   show (l.map T.er).all _=_
   rw [List.all_map]
   congr 1
   funext t
   exact pO t
  have:qr (rs.map fun r=>(r.1,erL r.2))=qr rs:=by
   unfold qr
   rw [List.all_map,List.all_map]
   congr 1
   ·congr 1
    funext r
    exact e1 r.2
   ·congr 2
    funext r
    exact e2 r.2
  rw [this]
  split<;>rfl
 | _=>rfl
theorem EU (x:DSl):gr x.er=(gr x).map T.er:=by
 cases x with
 | one u =>
  cases u with
  | v y=>rfl
  | any=>rfl
  | s k d z r=>simp [Sl.er,au,gr]
 | _=>rfl
theorem rq (D:DSt) (pl:List (Nat×Nat)):∀ (r:List (Nat×Operand)) (ts:List DT),eb (fun q=>(erD D)[q]?) pl r (erL ts)=(eb (fun q=>D[q]?) pl r ts).map erL
 | [],ts=>rfl
 | (i,x)::r,ts=>by
  simp only [eb]
  split
  ·rename_i q
   have e:((erD D)[q]?).bind gr=((D[q]?).bind gr).map T.er:=by
    rw [bE]
    cases D[q]? with
    | none=>rfl
    | some y=>simp only [Option.map_some,Option.bind_some,EU]
   rw [e]
   cases pl[i]? with
   | none=>rfl
   | some os =>
    obtain ⟨off,size⟩:=os
    cases (D[q]?).bind gr with
    | none=>rfl
    | some t =>
     simp only [Option.map_some,List.length_map]
     split
     ·have e2:ao (erL ts) off [t.er]=erL (ao ts off [t]):=(ji ts off [t]).symm
      rw [e2]
      exact rq D pl r _
     ·rfl
  ·rfl
theorem G7 (w:World) (tab:Tab) (D:DSt) (o:Oper):nk mkU frU tab (fun q=>(erD D)[q]?) o=(nk mkD (frD w) tab (fun q=>D[q]?) o).map Sl.er:=by
 have hw:∀ u,((erD D)[u]?).bind eT=((D[u]?).bind eT).map erL:=fun u=>by
  rw [bE]
  cases D[u]? with
  | none=>rfl
  | some y=>simp only [Option.map_some,Option.bind_some,EY]
 unfold nk
 split
 ·split
  ·rename_i sz by_ ze e u hti hp
   simp only [hw]
   cases tab.ti e with
   | none=>rfl
   | some te =>
    cases (D[u]?).bind eT with
    | none=>rfl
    | some us =>
     simp only [Option.map_some,List.length_map]
     split
     ·simp only [Option.map_some,Sl.er,au,List.map_cons,List.map_nil]
     ·rfl
  ·rfl
 ·split
  ·rename_i ti pl i u r hti hpl hp
   simp only [hw]
   cases pl[i]? with
   | none=>rfl
   | some os =>
    obtain ⟨off,size⟩:=os
    cases (D[u]?).bind eT with
    | none=>rfl
    | some us =>
     simp only [Option.map_some,List.length_map]
     split
     ·have e1:ao (ti.zero.map (T.inj mkU.nil)) off (erL us)=erL (ao (ti.zero.map (T.inj mkD.nil)) off us):=by
       rw [l8,ji]
      rw [e1,rq]
      cases eb (fun q=>D[q]?) pl r (ao (ti.zero.map (T.inj mkD.nil)) off us) with
      | none=>rfl
      | some ts=>simp only [Option.map_some,Sl.er]
     ·rfl
  ·rfl
 ·split
  ·rename_i u hop
   show (((erD D)[u]?).bind gX).map Sl.tup=(((D[u]?).bind gX).map Sl.tup).map Sl.er
   rw [bE]
   cases D[u]? with
   | none=>rfl
   | some y =>
    simp only [Option.map_some,Option.bind_some,EZ]
    cases gX y with
    | none=>rfl
    | some rs=>rfl
  ·rfl
 ·rfl
theorem pg {p:Nat→Nat→Bool} {t:DT} (h:((t.dead p).isOwn || (t.dead p).isV)=true):t.dead p=t:=by
 cases t with
 | v x=>rfl
 | any=>rfl
 | s k d z r =>
  cases k with
  | own=>rfl
  | far=>rfl
  | lent h' c' fl =>
   simp only [T.dead] at h ⊢
   split
   ·rename_i hp
    rw [if_pos hp] at h
    simp [T.isOwn,T.isV] at h
   ·rfl
theorem Af {D:DSt} {a q:Nat} {x:DSl} (h:(kill1 D a)[q]?=some x) (hx:(eT x).isSome=true∨(gr x).isSome=true∨(gX x).isSome=true):D[q]?=some x:=by
 by_cases ha:a<D.length
 ·rw [lf D a q ha] at h
  split at h
  ·cases h
   rcases hx with hx | hx | hx<;>cases hx
  ·rw [Option.map_eq_some_iff] at h
   obtain ⟨y,h1,h2⟩:=h
   rw [h1]
   congr 1
   subst h2
   cases y with
   | any=>rfl
   | one u =>
    simp only [Sl.clean,Sl.dead,Sl.gone] at hx ⊢
    rw [pg]
    rcases hx with hx | hx | hx
    ·simp only [eT] at hx
     split at hx
     ·rename_i ho;simp [ho]
     ·cases hx
    ·unfold gr at hx
     split at hx
     ·rename_i v he
      cases he':(u.dead (atH a))<;>simp_all [T.isV]
     ·cases hx
    ·cases hx
   | agg ts =>
    simp only [Sl.clean,Sl.dead,Sl.gone] at hx ⊢
    rcases hx with hx | hx | hx
    ·simp only [eT] at hx
     split at hx
     ·rename_i hall
      rw [List.all_eq_true] at hall
      have:=List.map_congr_left (f:=T.dead (atH a)) (g:=id) (l:=ts) fun t ht=>pg (hall _ (List.mem_map_of_mem ht))
      rw [List.map_id] at this
      rw [this]
     ·cases hx
    ·cases hx
    ·cases hx
   | box b ts=>simp only [Sl.clean,Sl.dead,Sl.gone] at hx;rcases hx with hx | hx | hx<;>cases hx
   | al=>simp only [Sl.clean,Sl.dead] at hx ⊢;split at hx<;>(rcases hx with hx | hx | hx<;>cases hx)
   | pe=>simp only [Sl.clean,Sl.dead] at hx ⊢;split at hx<;>(rcases hx with hx | hx | hx<;>cases hx)
   | pb=>simp only [Sl.clean,Sl.dead,Sl.gone] at hx ⊢;split at hx<;>(rcases hx with hx | hx | hx<;>cases hx)
   | clo=>simp only [Sl.clean,Sl.dead,Sl.gone] at hx ⊢;split at hx<;>(rcases hx with hx | hx | hx<;>cases hx)
   | im k b ts off =>
    cases k with
    | lent=>simp only [Sl.clean,Sl.dead] at hx ⊢;split at hx<;>(rcases hx with hx | hx | hx<;>cases hx)
    | _=>rcases hx with hx | hx | hx<;>cases hx
   | fni f caps=>rcases hx with hx | hx | hx<;>cases hx
   | tup rs =>
    simp only [Sl.clean,Sl.dead,Sl.gone] at hx ⊢
    rcases hx with hx | hx | hx
    ·cases hx
    ·cases hx
    ·simp only [gX] at hx
     split at hx
     ·rename_i hall
      unfold qr at hall
      rw [Bool.and_eq_true] at hall
      have:=List.map_congr_left (f:=fun r:Bool×List DT=>(r.1,r.2.map (T.dead (atH a)))) (g:=id) (l:=rs) fun r hr=>by
       have h3:=List.all_eq_true.1 hall.1 (r.1,r.2.map (T.dead (atH a))) (List.mem_map_of_mem hr)
       have h4:=List.map_congr_left (f:=T.dead (atH a)) (g:=id) (l:=r.2) fun t ht=>pg (List.all_eq_true.1 h3 _ (List.mem_map_of_mem ht))
       rw [List.map_id] at h4
       show (r.1,_)=r
       rw [h4]
      rw [List.map_id] at this
      rw [this]
     ·cases hx
 ·unfold kill1 at h
  rw [if_neg ha] at h
  exact h
theorem jH:∀ (l:List Nat) {D:DSt} {q:Nat} {x:DSl},(killAll l D)[q]?=some x→(eT x).isSome=true∨(gr x).isSome=true∨(gX x).isSome=true→D[q]?=some x
 | [],D,q,x,h,_=>h
 | a::l,D,q,x,h,hx=>by
  simp only [killAll,List.foldl_cons] at h
  exact Af (jH l h hx) hx
def T.lentTo {δ:Type} (t:Nat):T δ→Bool
 | .s (.lent h _ _) _ _ _=>h==t
 | _=>false
def c9 {δ β:Type} (t:Nat):Sl δ β→Bool
 | .al h _ _ _ _=>h==t
 | .pe h _ _ _ _=>h==t
 | .pb h _=>h==t
 | .clo _ hs=>hs.contains t
 | .im (.lent h _ _) _ _ _=>h==t
 | .one u=>u.lentTo t
 | .agg ts=>ts.any (T.lentTo t)
 | .box _ ts=>ts.any (T.lentTo t)
 | .tup rs=>rs.any fun r=>r.2.any (T.lentTo t)
 | _=>false
theorem HO {t:Nat} {s:DSl} (h:b9 t s):c9 t s.er=true:=by
 have hT:∀ (ts:List DT),(∃ u∈ts,∃ c fl d z r,u = .s (.lent t c fl) d z r)→(erL ts).any (T.lentTo t)=true:=by
  rintro ts ⟨u,hu,c,fl,d,z,r,rfl⟩
  rw [List.any_eq_true]
  exact ⟨_,List.mem_map_of_mem hu,by simp [au,T.lentTo]⟩
 cases s with
 | any=>cases h
 | one u=>obtain ⟨c,fl,d,z,r,rfl⟩:=h;simp [Sl.er,au,c9,T.lentTo]
 | agg ts=>exact hT ts h
 | box b ts=>exact hT ts h
 | al h' c st lo len=>simp only [b9] at h;subst h;simp [Sl.er,c9]
 | pe h' c st i off=>simp only [b9] at h;subst h;simp [Sl.er,c9]
 | pb h' off=>simp only [b9] at h;subst h;simp [Sl.er,c9]
 | im k b ts off =>
  cases k with
  | lent h' c fl=>simp only [b9] at h;subst h;simp [Sl.er,c9]
  | _=>cases h
 | fni f caps=>cases h
 | clo f hs =>
  have h':t∈hs:=h
  simp [Sl.er,c9,h']
 | tup rs =>
  obtain ⟨r,hr,hu⟩:=h
  simp only [Sl.er,c9]
  rw [List.any_eq_true]
  exact ⟨_,List.mem_map_of_mem hr,hT r.2 hu⟩
theorem Az {t:Nat} {s:DSl} (h:c9 t s.er=false):¬ b9 t s:=fun q=>by rw [HO q] at h;cases h
theorem sA {D:DSt} {u:Nat} (hD:∀ s∈D,¬ b9 u s):aM u D=D.set u .any:=by
 have:(St.dead (atH u) (qH u) D).map (Sl.gone u)=D:=by
  simp only [St.dead,List.map_map]
  conv=>rhs;rw [← List.map_id D]
  exact List.map_congr_left fun s' hs'=>pd (hD s' hs')
 unfold aM
 rw [this]
theorem Inv.stepT {P:Program} {tab:Tab} (ok:a8 P tab) {cx:Cx} {D:DSt} {a:Act} {w:World} (I:Inv cx D [] a.tmps w) {l:List Nat} {o:Oper} {t u:Nat} (hd:o.dst=some t) (ha:D[t]?=some .any) (hu:Am.takeSlot o=some u)
  (hr:∀ s∈erD D,c9 u s=false) {s:Sl Unit Unit} (e:nk mkU frU tab (fun q=>(Am.killAll l (erD D))[q]?) o=some s) (hs:c9 t s=false) {K:Act→World→Prop} {Q:Exit→Act→World→Prop}
  (hK:∀ D' a' w',erD D'=((erD D).set u .any).set t s→(∃ y,a'=a.put o.dst y)→Inv cx D' [] a'.tmps w'→K a' w'):o.wp P a w K Q:=by
 have htl:t<D.length:=by
  rcases Nat.lt_or_ge t D.length with g | g
  ·exact g
  ·rw [List.getElem?_eq_none g] at ha;cases ha
 rw [← ie,G7 w] at e
 obtain ⟨sd,e1,rfl⟩:=Option.map_eq_some_iff.1 e
 have e2:nk mkD (frD w) tab (fun q=>D[q]?) o=some sd:=FO (fun q x h1 h2=>jH l h1 (.inr (.inl h2))) (fun q x h1 h2=>jH l h1 (.inl h2)) (fun q x h1 h2=>jH l h1 (.inr (.inr h2))) e1
 have hnu:∀ s∈D,¬ b9 u s:=fun s hs=>Az (hr s.er (List.mem_map_of_mem hs))
 have hnt:∀ s∈D,¬ b9 t s:=fun s' hs'=>by
  obtain ⟨i,hi⟩:=List.getElem?_of_mem hs'
  exact I.any_refs ha (I.val i s' hi) (I.kind s' hs')
 have e3:=yS hd hu htl (sA hnu) e2
 rw [sA hnu,kq (fun s' hs'=>by
  rcases List.mem_or_eq_of_mem_set hs' with h | rfl
  ·exact hnt s' h
  ·exact fun h=>h) (Az hs)] at e3
 obtain ⟨nx,w',h1,h2⟩:=wo ok I e3
 unfold Oper.wp
 rw [h1]
 cases h2 with
 | value y h=>exact hK _ _ _ (by rw [eH,eH];rfl) ⟨_,rfl⟩ h
 | skip hd' h=>rw [hd] at hd';cases hd'
def tko (tk:Nat→Bool) (ops:Array Oper) (j:Nat):Option Nat:=if tk j=true then (ops[j]?).bind fun o=>if o.guard.isNone=true then takeSlot o else none else none
def fi (tk:Nat→Bool) (ops:Array Oper) (m:Nat):List Nat:=(List.range m).filterMap (tko tk ops)
def jW (tk:Nat→Bool) (ops:Array Oper) (m j:Nat):List Nat:=(List.range m).filterMap fun k=>if k=j then none else tko tk ops k
def gm (tk:Nat→Bool) (ops:Array Oper) (m:Nat) (anc:List (List Nat)) (j:Nat):List Nat :=
 (List.range m).filterMap fun i=>match (ops[i]?).bind (·.dst) with
  | some t=>if ((anc.getD j []).contains i && !((jW tk ops m j).contains t))=true then none else some t
  | none=>none
def yX (tk:Nat→Bool) (ops:Array Oper) (m:Nat) (anc:List (List Nat)):Bool :=
 decide (m≤ops.size) &&
 (List.range ops.size).all (fun j=>(bz ops j).all fun i=>decide (i<j)) &&
 (List.range m).all (fun j=>((ops[j]?).bind (·.dst)).isSome)&&decide ((cp ops m).Nodup) &&
 (List.range ops.size).all (fun j=>(anc.getD j []).all fun i=>(bz ops j).contains i || (bz ops j).any fun k=>(anc.getD k []).contains i) &&
 (List.range ops.size).all (fun j=>decide (j<m) || (List.range j).all fun i=>(bz ops j).contains i || (bz ops j).any fun k=>(anc.getD k []).contains i) &&
 (List.range m).all (fun k=>match tko tk ops k with
  | some u=>(List.range m).any (fun i=>(anc.getD k []).contains i&&decide ((ops[i]?).bind (·.dst)=some u)) && !((jW tk ops m k).contains u)
  | none=>true)
def evM (tab:Tab) (fns:FuncId→Option Func) (C:Sem1) (tk:Nat→Bool) (ops:Array Oper) (m:Nat) (anc:List (List Nat)) (j:Nat) (U:US):Option (Sl Unit Unit) :=
 match ops[j]? with
 | some o =>
  match o.dst with
  | some t =>
   (match tko tk ops j with
    | none=>zS ops (killAll (gm tk ops m anc j) U) o (stepV tab fns C (killAll (gm tk ops m anc j) U) o)
    | some _=>nk mkU frU tab (fun q=>(killAll (gm tk ops m anc j) U)[q]?) o).bind fun s=>if (t::fi tk ops m).all (fun v => !c9 v s)=true then some s else none
  | none=>none
 | none=>none
def kW (tk:Nat→Bool) (ops:Array Oper) (j:Nat) (U:US):US:=match tko tk ops j with | none=>U | some u=>U.set u .any
def stepM (tab:Tab) (fns:FuncId→Option Func) (C:Sem1) (tk:Nat→Bool) (ops:Array Oper) (m:Nat) (anc:List (List Nat)) (U:US) (j:Nat):Option US :=
 match (ops[j]?).bind (·.dst) with
 | some t =>
  match U[t]? with
  | some .any=>(evM tab fns C tk ops m anc j U).map fun s=>(kW tk ops j U).set t s
  | _=>none
 | none=>none
def ks (tab:Tab) (fns:FuncId→Option Func) (C:Sem1) (tk:Nat→Bool) (ops:Array Oper) (m:Nat) (anc:List (List Nat)):Nat→Nat→US→Option US
 | 0,_,U=>some U
 | n+1,j,U=>(stepM tab fns C tk ops m anc U j).bind (ks tab fns C tk ops m anc n (j+1))
def runD (tab:Tab) (fns:FuncId→Option Func) (C:Sem1) (tk:Nat→Bool) (ops:Array Oper) (m:Nat) (anc:List (List Nat)) (D:US):Option US :=
 if yX tk ops m anc&&(cp ops m).all (fun t=>decide (t<D.length))&&(killAll (cp ops m) D).all (fun s=>(fi tk ops m).all fun u => !c9 u s) then
  (ks tab fns C tk ops m anc m 0 (killAll (cp ops m) D)).bind (runOps tab fns C tk ops (ops.toList.drop m) m) else none
theorem GE {tk:Nat→Bool} {ops:Array Oper} {j u:Nat} {o:Oper} (ho:ops[j]?=some o) (h:tko tk ops j=some u):takeSlot o=some u∧o.guard=none:=by
 unfold tko at h
 split at h
 ·rw [ho,Option.bind_some] at h
  split at h
  ·rename_i hg;exact ⟨h,Option.isNone_iff_eq_none.1 hg⟩
  ·cases h
 ·cases h
end Go.Proofs.YtgaiiephdjllkaaGreatDoor.Am
