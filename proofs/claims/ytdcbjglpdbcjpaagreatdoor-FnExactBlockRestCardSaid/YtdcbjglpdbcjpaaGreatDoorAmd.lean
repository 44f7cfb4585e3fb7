/- An abstract machine over trees, and that its steps are sound, a part. Conditions: none. -/
import Derived.Test.YtdcbjglpdbcjpaaGreatDoorAmb
import Derived.LoopN
namespace Go.Proofs.YtdcbjglpdbcjpaaGreatDoor.Am
set_option linter.unusedVariables false
set_option linter.unusedSimpArgs false
open Go
theorem Em {P:Program} {ops:Array Oper} {Q:Exit→Act→World→Prop} (htopo:∀ j i,i∈fI ops j→i<j) :
  ∀ (l:List Oper) (j:Nat) (listed:Array Bool) (a:Act) (w:World),listed.size=ops.size→(∀ i,l[i]?=ops[j+i]?)→(∀ i,i<ops.size→(ch listed i↔i<j)) →
   (∀ k,j≤k→k<ops.size→∀ i,i<k→i∈fI ops k∨∃ k1∈fI ops k,i<k1)→wpList P ops Q l a w→wpAny P .any ops Q l.length listed a w:=by
 intro l
 induction l with
 | nil =>
  intro j listed a w hs hl hL _ h
  have hj:ops.size≤j:=by
   have:=hl 0
   simp at this
   exact this
  refine ⟨?_,h⟩
  apply List.eq_nil_iff_forall_not_mem.2
  intro i hi
  rw [pX hs] at hi
  exact hi.2.1 ((hL i hi.1).2 (by omega))
 | cons o l ih =>
  intro j listed a w hs hl hL hseq h
  have h0:ops[j]?=some o:=by simpa using (hl 0).symm
  have hj:j<ops.size:=(Array.getElem?_eq_some_iff.1 h0).1
  have hready:∀ i,i∈Region.ready .any ops listed↔i=j:=by
   intro i
   rw [pX hs]
   constructor
   ·rintro ⟨h1,h2,h3⟩
    have h4:¬ i<j:=fun q=>h2 ((hL i h1).2 q)
    rcases Nat.lt_or_ge j i with g | g
    ·rcases hseq i (by omega) h1 j g with q | ⟨k1,q1,q2⟩
     ·exact absurd ((hL j hj).1 (h3 j q)) (Nat.lt_irrefl _)
     ·have q3:=htopo i k1 q1
      have:=(hL k1 (by omega)).1 (h3 k1 q1)
      omega
    ·omega
   ·rintro rfl
    exact ⟨hj,fun q=>Nat.lt_irrefl _ ((hL i hj).1 q),fun k hk=>(hL k (by have:=htopo i k hk;omega)).2 (htopo i k hk)⟩
  show _∧_
  refine ⟨fun q => ?_,fun i hi => ?_⟩
  ·have:=(hready j).2 rfl
   rw [q] at this;cases this
  ·rw [hready] at hi
   subst hi
   have key:∀ a w,wpList P ops Q l a w→wpAny P .any ops Q l.length (listed.setIfInBounds i true) a w:=fun a w h=>by
    refine ih (i+1) (listed.setIfInBounds i true) a w (by simp [hs]) (fun k=>by have:=hl (k+1);simpa [Nat.add_assoc,Nat.add_comm 1 k] using this) (fun k hk => ?_) (fun k hk=>hseq k (by omega)) h
    rw [mu,hL k hk]
    constructor
    ·rintro (⟨rfl,_⟩ | q)<;>omega
    ·intro q
     by_cases e:k=i
     ·exact .inl ⟨e,by omega⟩
     ·exact .inr (by omega)
   unfold wpOp
   rw [h0]
   simp only
   unfold wpList at h
   split
   ·rename_i hw
    rw [if_pos hw] at h
    exact h.imp (Oper.wp_mono key) id
   ·rename_i hw
    rw [if_neg hw] at h
    exact key _ _ h
section
variable {tab : Tab} {fns : FuncId → Option Func} {C : Sem1} {tk : Nat → Bool} {ops : Array Oper} {m : Nat} {anc : List (List Nat)}
structure Lex (tk:Nat→Bool) (ops:Array Oper) (m:Nat) (anc:List (List Nat)) (V0:US) (ts:Nat→Nat):Prop where
 dst:∀ j,j<m→∃ o,ops[j]?=some o∧o.dst=some (ts j)
 inj:∀ i j,i<m→j<m→ts i=ts j→i=j
 any:∀ j,j<m→V0[ts j]?=some .any
 tk1:∀ k,k<m→∀ u,tko tk ops k=some u→∃ i,i<m∧i∈anc.getD k []∧ts i=u
 tk2:∀ k k' u,k<m→k'<m→tko tk ops k=some u→tko tk ops k'=some u→k=k'
 lt:∀ j,j<m→∀ i∈anc.getD j [],i<j
structure Shows (tk:Nat→Bool) (ops:Array Oper) (m:Nat) (V0:US) (ts:Nat→Nat) (ss:Nat→Sl Unit Unit) (L:Nat→Prop) (U:US):Prop where
 len:U.length=V0.length
 on:∀ j,j<m→L j→(∀ k,k<m→L k→tko tk ops k≠some (ts j))→U[ts j]?=some (ss j)
 gone:∀ k,k<m→L k→∀ u,tko tk ops k=some u→U[u]?=some .any
 off:∀ u,(∀ j,j<m→L j→ts j≠u)→(∀ k,k<m→L k→tko tk ops k≠some u)→U[u]?=V0[u]?
variable {V0 : US} {ts : Nat → Nat} {ss : Nat → Sl Unit Unit} {L L' : Nat → Prop} {U U' : US}
theorem Shows.any (hx:Lex tk ops m anc V0 ts) (h:Shows tk ops m V0 ts ss L U) {j:Nat} (hj:j<m) (hn:¬ L j):U[ts j]?=some .any:=by
 by_cases e:∃ k,k<m∧L k∧tko tk ops k=some (ts j)
 ·obtain ⟨k,h1,h2,h3⟩:=e
  exact h.gone k h1 h2 _ h3
 ·rw [h.off (ts j) (fun k hk hL e=>hn (hx.inj k j hk hj e ▸ hL)) fun k hk hL q=>e ⟨k,hk,hL,q⟩]
  exact hx.any j hj
theorem Shows.set (hx:Lex tk ops m anc V0 ts) (h:Shows tk ops m V0 ts ss L U) {j:Nat} (hj:j<m) (hn:¬ L j) (hcl:∀ k,k<m→L k→∀ i∈anc.getD k [],i<m→L i):Shows tk ops m V0 ts ss (fun i=>i=j∨L i) ((my tk ops j U).set (ts j) (ss j)):=by
 have hlt:ts j<U.length:=by
  have:=h.any hx hj hn
  rcases Nat.lt_or_ge (ts j) U.length with g | g
  ·exact g
  ·rw [List.getElem?_eq_none g] at this;cases this
 have hlo:(my tk ops j U).length=U.length:=by
  unfold my
  split
  ·rfl
  ·rw [List.length_set]
 have hget:∀ v,tko tk ops j≠some v→(my tk ops j U)[v]?=U[v]?:=fun v hv=>by
  unfold my
  split
  ·rfl
  ·rename_i u hu
   rw [List.getElem?_set_ne]
   intro e
   exact hv (e ▸ hu)
 refine ⟨by rw [List.length_set,hlo];exact h.len,fun k hk hL hnt => ?_,fun k hk hL u hu => ?_,fun u hu hnt => ?_⟩
 ·by_cases e:k=j
  ·subst e
   rw [List.getElem?_set_self (by rw [hlo];exact hlt)]
  ·rw [List.getElem?_set_ne (fun q=>e (hx.inj j k hj hk q).symm),hget _ (hnt j hj (.inl rfl))]
   exact h.on k hk (hL.resolve_left e) fun k' hk' hL'=>hnt k' hk' (.inr hL')
 ·obtain ⟨i,hi,hia,hts⟩:=hx.tk1 k hk u hu
  have hne:ts j≠u:=by
   intro q
   have hij:i=j:=hx.inj i j hi hj (hts.trans q.symm)
   subst hij
   rcases hL with rfl | hL
   ·exact Nat.lt_irrefl _ (hx.lt _ hk _ hia)
   ·exact hn (hcl k hk hL i hia hi)
  rw [List.getElem?_set_ne hne]
  by_cases e:tko tk ops j=some u
  ·have hul:u<U.length:=by
    have:=hx.any i hi
    rw [hts] at this
    rcases Nat.lt_or_ge u V0.length with g | g
    ·rw [h.len];exact g
    ·rw [List.getElem?_eq_none g] at this;cases this
   unfold my
   rw [e]
   simp only
   rw [List.getElem?_set_self hul]
  ·rw [hget u e]
   rcases hL with rfl | hL
   ·exact absurd hu e
   ·exact h.gone k hk hL u hu
 ·rw [List.getElem?_set_ne (hu j hj (.inl rfl)),hget u (hnt j hj (.inl rfl))]
  exact h.off u (fun k hk hL=>hu k hk (.inr hL)) fun k hk hL=>hnt k hk (.inr hL)
theorem Shows.hide (hx:Lex tk ops m anc V0 ts) (h:Shows tk ops m V0 ts ss L U) (h':Shows tk ops m V0 ts ss L' U') {j:Nat} (hj:¬ L j) (hj':¬ L' j) (ha:∀ i∈anc.getD j [],i<m→L i∧L' i) :
  killAll (gN tk ops m anc j) U=killAll (gN tk ops m anc j) U':=by
 refine sR _ (h.len.trans h'.len.symm) fun u hu => ?_
 by_cases e:∃ i,i<m∧ts i=u
 ·obtain ⟨i,hi,rfl⟩:=e
  obtain ⟨o,ho,hd⟩:=hx.dst i hi
  have hin:((anc.getD j []).contains i && !((oK tk ops m j).contains (ts i)))=true:=by
   apply Classical.byContradiction
   intro q
   apply hu
   unfold gN
   rw [List.mem_filterMap]
   refine ⟨i,List.mem_range.2 hi,?_⟩
   rw [ho]
   simp only [Option.bind_some,hd]
   rw [if_neg q]
  rw [Bool.and_eq_true,List.contains_iff_mem] at hin
  obtain ⟨hm,hnt⟩:=hin
  have hno:∀ k,k<m→k≠j→tko tk ops k≠some (ts i):=fun k hk hkj q=>by
   have:ts i∈oK tk ops m j:=List.mem_filterMap.2 ⟨k,List.mem_range.2 hk,by rw [if_neg hkj];exact q⟩
   rw [← List.contains_iff_mem] at this
   rw [this] at hnt
   cases hnt
  obtain ⟨q1,q2⟩:=ha i hm hi
  rw [h.on i hi q1 fun k hk hL=>hno k hk fun e=>hj (e ▸ hL),h'.on i hi q2 fun k hk hL=>hno k hk fun e=>hj' (e ▸ hL)]
 ·have e':∀ i,i<m→ts i≠u:=fun i hi q=>e ⟨i,hi,q⟩
  have e2:∀ k,k<m→tko tk ops k≠some u:=fun k hk q=>by
   obtain ⟨i,hi,_,hts⟩:=hx.tk1 k hk u q
   exact e' i hi hts
  rw [h.off u (fun i hi _=>e' i hi) fun k hk _=>e2 k hk,h'.off u (fun i hi _=>e' i hi) fun k hk _=>e2 k hk]
theorem Shows.ext (hx:Lex tk ops m anc V0 ts) (h:Shows tk ops m V0 ts ss L U) (h':Shows tk ops m V0 ts ss L' U') (hL:∀ i,i<m→L i) (hL':∀ i,i<m→L' i):U=U':=by
 apply List.ext_getElem?
 intro u
 by_cases e2:∃ k,k<m∧tko tk ops k=some u
 ·obtain ⟨k,hk,hu⟩:=e2
  rw [h.gone k hk (hL k hk) u hu,h'.gone k hk (hL' k hk) u hu]
 ·have e2':∀ k,k<m→tko tk ops k≠some u:=fun k hk q=>e2 ⟨k,hk,q⟩
  by_cases e:∃ i,i<m∧ts i=u
  ·obtain ⟨i,hi,rfl⟩:=e
   rw [h.on i hi (hL i hi) fun k hk _=>e2' k hk,h'.on i hi (hL' i hi) fun k hk _=>e2' k hk]
  ·have e':∀ i,i<m→ts i≠u:=fun i hi q=>e ⟨i,hi,q⟩
   rw [h.off u (fun i hi _=>e' i hi) fun k hk _=>e2' k hk,h'.off u (fun i hi _=>e' i hi) fun k hk _=>e2' k hk]
theorem Shows.nr (hx:Lex tk ops m anc V0 ts) (h:Shows tk ops m V0 ts ss L U) (h0:∀ u∈ji tk ops m,∀ s∈V0,eD u s=false) (hs:∀ i,i<m→∀ u∈ji tk ops m,eD u (ss i)=false) :
  ∀ u∈ji tk ops m,∀ s∈U,eD u s=false:=by
 intro u hu s hsU
 obtain ⟨v,hv⟩:=List.getElem?_of_mem hsU
 by_cases e2:∃ k,k<m∧L k∧tko tk ops k=some v
 ·obtain ⟨k,hk,hL,q⟩:=e2
  rw [h.gone k hk hL v q] at hv
  cases hv;rfl
 ·have e2':∀ k,k<m→L k→tko tk ops k≠some v:=fun k hk hL q=>e2 ⟨k,hk,hL,q⟩
  by_cases e:∃ i,i<m∧L i∧ts i=v
  ·obtain ⟨i,hi,hL,rfl⟩:=e
   rw [h.on i hi hL e2'] at hv
   cases hv
   exact hs i hi u hu
  ·rw [h.off v (fun i hi hL q=>e ⟨i,hi,hL,q⟩) e2'] at hv
   exact h0 u hu s (List.mem_of_getElem? hv)
theorem Eq (hD:tr tk ops m anc):∀ j,j<ops.size→∀ i∈anc.getD j [],i<j:=by
 intro j
 induction j using Nat.strongRecOn with
 | ind j ih =>
  intro hj i hi
  rcases hD.anc j hj i hi with g | ⟨k,g1,g2⟩
  ·exact hD.topo j i g
  ·have:=hD.topo j k g1
   have:=ih k this (by omega) i g2
   omega
theorem Jp (hD:tr tk ops m anc):∀ j,j<m→∀ i∈anc.getD j [],i<j:=fun j hj=>Eq hD j (by have:=hD.le;omega)
theorem rC (hD:tr tk ops m anc) {L:Nat→Prop} (hc:∀ k,L k→∀ i∈fI ops k,L i):∀ j,j<ops.size→(∀ i∈fI ops j,L i)→∀ i∈anc.getD j [],L i:=by
 intro j
 induction j using Nat.strongRecOn with
 | ind j ih =>
  intro hj ha i hi
  rcases hD.anc j hj i hi with g | ⟨k,g1,g2⟩
  ·exact ha i g
  ·have hk:=hD.topo j k g1
   exact ih k hk (by omega) (hc k (ha k g1)) i g2
theorem Shows.congr {ss':Nat→Sl Unit Unit} (h:Shows tk ops m V0 ts ss L U) (e:∀ i,i<m→L i→ss' i=ss i):Shows tk ops m V0 ts ss' L U :=
 ⟨h.len,fun i hi hL hn=>by rw [e i hi hL];exact h.on i hi hL hn,h.gone,h.off⟩
theorem Shows.imp (h:Shows tk ops m V0 ts ss L U) (e:∀ i,i<m→(L i↔L' i)):Shows tk ops m V0 ts ss L' U :=
 ⟨h.len,fun i hi hL hn=>h.on i hi ((e i hi).2 hL) fun k hk hLk=>hn k hk ((e k hk).1 hLk),fun k hk hL=>h.gone k hk ((e k hk).2 hL),fun u hu hn=>h.off u (fun i hi hL=>hu i hi ((e i hi).1 hL)) fun k hk hL=>hn k hk ((e k hk).1 hL)⟩
theorem xv:∀ (n j:Nat) {ss:Nat→Sl Unit Unit} {V U:US},Lex tk ops m anc V0 ts→j+n=m→Shows tk ops m V0 ts ss (fun i=>i<j) V →
  rh tab fns C tk ops m anc n j V=some U→∃ ss',(∀ i,i<j→ss' i=ss i)∧Shows tk ops m V0 ts ss' (fun i=>i<m) U∧∀ i,j≤i→i<m→∃ Vi,Shows tk ops m V0 ts ss' (fun k=>k<i) Vi∧evM tab fns C tk ops m anc i Vi=some (ss' i)
 | 0,j,ss,V,U,hx,hj,hV,e=>by
  cases e
  have:j=m:=by omega
  subst this
  exact ⟨ss,fun i _=>rfl,hV,fun i h1 h2=>by omega⟩
 | n+1,j,ss,V,U,hx,hj,hV,e=>by
  have hjm:j<m:=by omega
  simp only [rh,Option.bind_eq_some_iff] at e
  obtain ⟨V1,e1,e2⟩:=e
  obtain ⟨o,ho,hd⟩:=hx.dst j hjm
  unfold stepM at e1
  rw [ho,Option.bind_some,hd] at e1
  simp only at e1
  rw [hV.any hx hjm (Nat.lt_irrefl j)] at e1
  simp only [Option.map_eq_some_iff] at e1
  obtain ⟨s,e3,rfl⟩:=e1
  let ss1:Nat→Sl Unit Unit:=fun i=>if i=j then s else ss i
  have e5:ss1 j=s:=by simp [ss1]
  have e6:∀ i,i<j→ss1 i=ss i:=fun i hi=>by
   have:i≠j:=by omega
   simp [ss1,this]
  have hV':Shows tk ops m V0 ts ss1 (fun i=>i<j) V:=hV.congr fun i _ hL=>e6 i hL
  have hset:=hV'.set hx hjm (Nat.lt_irrefl j) (fun k hk hL i hi _=>Nat.lt_trans (hx.lt k hk i hi) hL)
  rw [e5] at hset
  obtain ⟨ss',h1,h2,h3⟩:=xv n (j+1) (ss:=ss1) (V:=(my tk ops j V).set (ts j) s) hx (by omega) (hset.imp fun i _=>by constructor<;>intro q<;>omega) e2
  refine ⟨ss',fun i hi=>(h1 i (by omega)).trans (e6 i hi),h2,fun i hi hm => ?_⟩
  by_cases e:i=j
  ·subst e
   refine ⟨V,hV'.congr fun k _ hL=>h1 k (by omega),?_⟩
   rw [h1 i (by omega),e5]
   exact e3
  ·exact h3 i (by omega) hm
theorem GJ {j:Nat} (h:killAll (gN tk ops m anc j) U=killAll (gN tk ops m anc j) U'):evM tab fns C tk ops m anc j U=evM tab fns C tk ops m anc j U':=by
 unfold evM
 rw [h]
theorem Ir (hx:Lex tk ops m anc V0 ts) (hv:∀ i,i<m→∃ Vi,Shows tk ops m V0 ts ss (fun k=>k<i) Vi∧evM tab fns C tk ops m anc i Vi=some (ss i))
  (h:Shows tk ops m V0 ts ss L U) {j:Nat} (hj:j<m) (hn:¬ L j) (ha:∀ k∈anc.getD j [],L k):stepM tab fns C tk ops m anc U j=some ((my tk ops j U).set (ts j) (ss j)):=by
 obtain ⟨o,ho,hd⟩:=hx.dst j hj
 obtain ⟨Vi,h1,h2⟩:=hv j hj
 unfold stepM
 rw [ho,Option.bind_some,hd]
 simp only
 rw [h.any hx hj hn]
 simp only
 rw [GJ (h.hide hx h1 hn (Nat.lt_irrefl j) (fun i hi _=>⟨ha i hi,hx.lt j hj i hi⟩)),h2]
 rfl
theorem H9 {j:Nat} {s:Sl Unit Unit} (h:evM tab fns C tk ops m anc j U=some s):∀ u∈ji tk ops m,eD u s=false:=by
 unfold evM at h
 split at h
 case h_2=>cases h
 split at h
 case h_2=>cases h
 rename_i o ho t hd
 rw [Option.bind_eq_some_iff] at h
 obtain ⟨s',_,h2⟩:=h
 split at h2
 case isFalse=>cases h2
 rename_i hc
 cases h2
 intro u hu
 have:=List.all_eq_true.1 hc u (List.mem_cons_of_mem _ hu)
 simpa using this
end
theorem GI {l:Array Bool} {rem:List Nat} {n j:Nat} (hs:l.size=n) (hnd:rem.Nodup) (hr:∀ i,i∈rem↔i<n∧¬ ch l i) (hj:j∈rem) :
  (rem.erase j).Nodup∧(∀ i,i∈rem.erase j↔i<n∧¬ ch (l.setIfInBounds j true) i)∧(rem.erase j).length+1=rem.length:=by
 refine ⟨hnd.erase j,fun i => ?_,?_⟩
 ·rw [hnd.mem_erase_iff,hr i,mu]
  have:=(hr j).1 hj
  constructor
  ·rintro ⟨h1,h2,h3⟩
   exact ⟨h2,fun q=>q.elim (fun g=>h1 g.1) h3⟩
  ·rintro ⟨h1,h2⟩
   exact ⟨fun e=>h2 (.inl ⟨e,by omega⟩),h1,fun q=>h2 (.inr q)⟩
 ·have:=List.length_erase_of_mem hj
  have:=List.length_pos_of_mem hj
  omega
theorem HG {P:Program} {tab:Tab} (ok:bn P tab) {fns:FuncId→Option Func} (hf:lY P fns) {B:Base} {C:Sem1} {cx:Cx} (hC:lH P B C cx) {ops:Array Oper} {m:Nat} {anc:List (List Nat)} {Q:Exit→Act→World→Prop}
  {tk:Nat→Bool} (hD:tr tk ops m anc) {V0:US} {ts:Nat→Nat} {ss:Nat→Sl Unit Unit} (hx:Lex tk ops m anc V0 ts) (hv:∀ i,i<m→∃ Vi,Shows tk ops m V0 ts ss (fun k=>k<i) Vi∧evM tab fns C tk ops m anc i Vi=some (ss i))
  (h0:∀ u∈ji tk ops m,∀ s∈V0,eD u s=false) {Vm:US} (hVm:Shows tk ops m V0 ts ss (fun i=>i<m) Vm) {T:Act→Prop} (hT:∀ o∈ops.toList,∀ a y,T a→T (a.put o.dst y)) (hQ:∀ D a w,Inv cx D [] a.tmps w→T a→erD D=Vm→wpList P ops Q (ops.toList.drop m) a w) :
  ∀ (n:Nat) (rem:List Nat) (listed:Array Bool) (D:DSt) (a:Act) (w:World),rem.length=n→listed.size=ops.size→rem.Nodup→(∀ i,i∈rem↔i<ops.size∧¬ ch listed i) →
   (∀ i,m≤i→i<ops.size→¬ ch listed i)→(∀ k,ch listed k→∀ i∈fI ops k,ch listed i)→Inv cx D [] a.tmps w→T a→Shows tk ops m V0 ts ss (ch listed) (erD D)→wpAny P .any ops Q n listed a w:=by
 intro n
 have tail:∀ (rem:List Nat) (listed:Array Bool) (D:DSt) (a:Act) (w:World),listed.size=ops.size→rem.Nodup→(∀ i,i∈rem↔i<ops.size∧¬ ch listed i) →
   (∀ i,m≤i→i<ops.size→¬ ch listed i)→(∀ i,i<m→ch listed i)→Inv cx D [] a.tmps w→T a→Shows tk ops m V0 ts ss (ch listed) (erD D)→wpAny P .any ops Q rem.length listed a w:=by
  intro rem listed D a w hs hnd hr hge hall I hd hS
  have hlen:(ops.toList.drop m).length=rem.length:=by
   have h1:rem.Perm ((List.range ops.size).drop m):=by
    refine (List.perm_ext_iff_of_nodup hnd (List.nodup_range.sublist (List.drop_sublist _ _))).2 fun i => ?_
    rw [hr i,List.mem_iff_getElem?]
    constructor
    ·rintro ⟨q1,q2⟩
     have:m≤i:=by
      rcases Nat.lt_or_ge i m with g | g
      ·exact absurd (hall i g) q2
      ·exact g
     exact ⟨i-m,by rw [List.getElem?_drop,List.getElem?_range (by omega)];congr 1;omega⟩
    ·rintro ⟨k,hk⟩
     rw [List.getElem?_drop] at hk
     have hlt:m+k<ops.size:=by
      rcases Nat.lt_or_ge (m+k) ops.size with g | g
      ·exact g
      ·rw [List.getElem?_eq_none (by simpa using g)] at hk;cases hk
     rw [List.getElem?_range hlt] at hk
     cases hk
     exact ⟨hlt,hge _ (by omega) hlt⟩
   have:=h1.length_eq
   simp at this ⊢
   omega
  rw [← hlen]
  have hE:erD D=Vm:=hS.ext hx hVm hall (fun i hi=>hi)
  refine Em (hD.topo) (ops.toList.drop m) m listed a w hs (fun i=>by rw [List.getElem?_drop];simp) (fun i hi => ?_) (fun k h1 h2 i hi=>(hD.seq k h1 h2 i hi).imp id fun ⟨k1,q1,q2⟩=>⟨k1,q1,Eq hD k1 (by have:=hD.topo k k1 q1;omega) i q2⟩) (hQ D a w I hd hE)
  constructor
  ·intro q
   rcases Nat.lt_or_ge i m with g | g
   ·exact g
   ·exact absurd q (hge i g hi)
  ·exact hall i
 induction n with
 | zero =>
  intro rem listed D a w hn hs hnd hr hge hc I hd hS
  have he:rem=[]:=List.length_eq_zero_iff.1 hn
  have:=tail rem listed D a w hs hnd hr hge (fun i hi=>by
   by_cases q:ch listed i
   ·exact q
   ·have:=(hr i).2 ⟨by have:=hD.le;omega,q⟩
    rw [he] at this;cases this) I hd hS
  rw [he] at this
  exact this
 | succ n ih =>
  intro rem listed D a w hn hs hnd hr hge hc I hd hS
  by_cases hall:∀ i,i<m→ch listed i
  ·have:=tail rem listed D a w hs hnd hr hge hall I hd hS
   rw [hn] at this
   exact this
  ·have hsome:∃ j,j<m∧¬ ch listed j∧∀ i,i<j→ch listed i:=by
    have hex:∃ j,j<m∧¬ ch listed j:=by
     apply Classical.byContradiction
     intro q
     exact hall fun i hi=>Classical.byContradiction fun q'=>q ⟨i,hi,q'⟩
    obtain ⟨j,h1,h2⟩:=hex
    induction j using Nat.strongRecOn with
    | ind j ihj =>
     by_cases q:∀ i,i<j→ch listed i
     ·exact ⟨j,h1,h2,q⟩
     ·have:∃ i,i<j∧¬ ch listed i:=Classical.byContradiction fun q'=>q fun i hi=>Classical.byContradiction fun q''=>q' ⟨i,hi,q''⟩
      obtain ⟨i,hi,hni⟩:=this
      exact ihj i hi (by omega) hni
   obtain ⟨j0,h1,h2,h3⟩:=hsome
   show _∧_
   refine ⟨fun q => ?_,fun j hj => ?_⟩
   ·have:j0∈Region.ready .any ops listed:=(pX hs).2 ⟨by have:=hD.le;omega,h2,fun i hi=>h3 i (hD.topo j0 i hi)⟩
    rw [q] at this;cases this
   ·obtain ⟨r1,r2,r3⟩:=(pX hs).1 hj
    have hjm:j<m:=by
     rcases Nat.lt_or_ge j m with g | g
     ·exact g
     ·rcases hD.seq j g r1 j0 (by omega) with q | ⟨k1,q1,q2⟩
      ·exact absurd (r3 j0 q) h2
      ·exact absurd (rC hD (fun k hk i hi=>hc k hk i hi) k1 (by have:=hD.topo j k1 q1;omega) (fun i hi=>hc k1 (r3 k1 q1) i hi) j0 q2) h2
    have hanc:∀ k∈anc.getD j [],ch listed k:=rC hD (fun k hk i hi=>hc k hk i hi) j r1 r3
    have hst:=Ir hx hv hS hjm r2 hanc
    have hnr:=hS.nr hx h0 (fun i hi=>by obtain ⟨Vi,_,q⟩:=hv i hi;exact H9 q)
    refine I.stepM ok hf hC hjm hnr hst fun D' a' w' e1 e2 e3 => ?_
    have hjr:j∈rem:=(hr j).2 ⟨r1,r2⟩
    obtain ⟨k1,k2,k3⟩:=GI hs hnd hr hjr
    refine ih (rem.erase j) (listed.setIfInBounds j true) D' a' w' (by omega) (by simp [hs]) k1 k2 (fun i h4 h5 q => ?_) (fun k hk i hi => ?_) e3 (by
     obtain ⟨o,y,q1,rfl⟩:=e2
     exact hT o (List.mem_of_getElem? (by simpa using q1)) a y hd) ?_
    ·rw [mu] at q
     rcases q with ⟨q,_⟩ | q
     ·omega
     ·exact hge i h4 h5 q
    ·rw [mu] at hk ⊢
     rcases hk with ⟨rfl,_⟩ | hk
     ·exact .inr (r3 i hi)
     ·exact .inr (hc k hk i hi)
    ·rw [e1]
     refine (hS.set hx hjm r2 (fun k hk hL i hi _=>rC hD (fun k hk i hi=>hc k hk i hi) k (by have:=hD.le;omega) (fun i hi=>hc k hL i hi) i hi)).imp fun i _ => ?_
     rw [mu]
     constructor
     ·rintro (q | q)
      ·exact .inl ⟨q,by omega⟩
      ·exact .inr q
     ·rintro (⟨q,_⟩ | q)
      ·exact .inl q
      ·exact .inr q
theorem mw {n i:Nat}:¬ ch (Array.replicate n false) i:=by
 intro q
 unfold ch at q
 rw [Array.getD_eq_getD_getElem?,Array.getElem?_replicate] at q
 split at q<;>cases q
theorem sN {α β:Type} {f:α→Option β} {g:α→β}:∀ {l:List α},(∀ i∈l,f i=some (g i))→l.filterMap f=l.map g
 | [],_=>rfl
 | a::l,h=>by
  rw [List.filterMap_cons,h a (by simp),List.map_cons,sN fun i hi=>h i (by simp [hi])]
theorem Inv.runD {P:Program} {tab:Tab} (ok:bn P tab) (hm:P.follows .mixedOrders=true) {fns:FuncId→Option Func} (hf:lY P fns) {B:Base} {C:Sem1} {cx:Cx} (hC:lH P B C cx) {tk:Nat→Bool} {ops:Array Oper} {m:Nat} {anc:List (List Nat)}
  {Q:Exit→Act→World→Prop}  {U:US} {T:Act→Prop} (hT:∀ o∈ops.toList,∀ a y,T a→T (a.put o.dst y)) (hQ:∀ D' a' w',erD D'=U→T a'→Inv cx D' [] a'.tmps w'→Q .normal a' w') {id:Nat} {D:DSt} {a:Act} {w:World} (I:Inv cx D [] a.tmps w) (hd:T a)
  (e:Am.runD tab fns C tk ops m anc (erD D)=some U):(Code.region id ops true).wp P Q a w:=by
 unfold Am.runD at e
 split at e
 case isFalse=>cases e
 rename_i hB
 rw [Bool.and_eq_true,Bool.and_eq_true] at hB
 obtain ⟨⟨hB,hlen⟩,hV0⟩:=hB
 have hD:=HT hB
 rw [Option.bind_eq_some_iff] at e
 obtain ⟨Vm,e1,e2⟩:=e
 rw [← mc] at e1 hV0
 have I0:=(I.drewn).killAll (ii ops m)
 generalize hD0:Am.killAll (ii ops m) D=D0 at e1 I0 hV0
 have hts:∃ ts:Nat→Nat,∀ j,j<m→(ops[j]?).bind (·.dst)=some (ts j):=by
  refine ⟨fun j=>((ops[j]?).bind (·.dst)).getD 0,fun j hj => ?_⟩
  obtain ⟨t,ht⟩:=hD.dst j hj
  simp [ht]
 obtain ⟨ts,hts⟩:=hts
 have hget:∀ j,j<m→∃ o,ops[j]?=some o∧o.dst=some (ts j):=fun j hj=>by
  have:=hts j hj
  rw [Option.bind_eq_some_iff] at this
  exact this
 have hinj:∀ i j,i<m→j<m→ts i=ts j→i=j:=by
  have hdst:ii ops m=(List.range m).map ts:=by
   unfold ii
   exact sN fun i hi=>hts i (List.mem_range.1 hi)
  have hnd:=hD.nodup
  rw [hdst] at hnd
  intro i j hi hj h
  have:=(List.pairwise_map.1 hnd)
  rcases Nat.lt_trichotomy i j with g | g | g
  ·exact absurd h (List.pairwise_iff_getElem.1 this i j (by simpa using hi) (by simpa using hj) g |> fun q=>by simpa using q)
  ·exact g
  ·exact absurd h.symm (List.pairwise_iff_getElem.1 this j i (by simpa using hj) (by simpa using hi) g |> fun q=>by simpa using q)
 have hmem:∀ j,j<m→ts j∈ii ops m:=fun j hj=>List.mem_filterMap.2 ⟨j,List.mem_range.2 hj,hts j hj⟩
 have hx:Lex tk ops m anc (erD D0) ts:=⟨hget,hinj,fun j hj=>by
  rw [← hD0,mc]
  refine vy _ ?_ (.inl (hmem j hj))
  simpa using List.all_eq_true.1 hlen _ (hmem j hj),fun k hk u hu=>by
   obtain ⟨i,hi,hia,hd'⟩:=hD.tk1 k hk u hu
   rw [hts i hi] at hd'
   exact ⟨i,hi,hia,by cases hd';rfl⟩,hD.tk2,Jp hD⟩
 have h0:Shows tk ops m (erD D0) ts (fun _ => .any) (fun i=>i<0) (erD D0):=⟨rfl,fun j _ q=>by omega,fun j _ q=>by omega,fun u _ _=>rfl⟩
 obtain ⟨ss,_,k2,k3⟩:=xv m 0 hx (by omega) h0 e1
 have hnr0:∀ u∈ji tk ops m,∀ s∈erD D0,eD u s=false:=fun u hu s hs=>by
  have:=List.all_eq_true.1 (List.all_eq_true.1 hV0 s hs) u hu
  simpa using this
 refine wp_region_any hm ?_
 refine HG ok hf hC hD hx (fun i hi=>k3 i (Nat.zero_le i) hi) hnr0 k2 (T:=T) hT (fun D' a' w' q1 q2 q3 => ?_) ops.size (List.range ops.size) _ D0 a _ (by simp) (by simp) List.nodup_range (fun i => ?_) (fun i h1 h2 q => ?_) (fun k hk => ?_) I0 hd ?_
 ·exact Inv.runOps (tk:=tk) ok hf hC hQ _ m (fun o ho=>hT o (List.mem_of_mem_drop ho)) q1 q2 (by rw [q3];exact e2)
 ·rw [List.mem_range]
  constructor
  ·intro q
   exact ⟨q,mw⟩
  ·exact fun q=>q.1
 ·exact mw q
 ·exact absurd hk mw
 ·exact ⟨rfl,fun j hj q=>absurd q mw,fun k hk q=>absurd q mw,fun u _ _=>rfl⟩
end Go.Proofs.YtdcbjglpdbcjpaaGreatDoor.Am
namespace Go.Proofs.YtdcbjglpdbcjpaaGreatDoor.Am
set_option linter.unusedVariables false
set_option linter.unusedSimpArgs false
open Go
section
variable {δ β : Type}
def forgetOne (l:List Nat) (D:St δ β) (t:Nat):St δ β :=
 if l.contains t then D else match D[t]? with | some .any=>D | some _=>aS D (some t) .any | none=>D
def forget (l:List Nat) (D:St δ β):St δ β:=(List.range D.length).foldl (forgetOne l) D
end
theorem Bo (l:List Nat) (D:DSt) (t:Nat):erD (forgetOne l D t)=forgetOne l (erD D) t:=by
 unfold forgetOne
 rw [bH]
 split
 ·rfl
 ·cases D[t]? with
  | none=>rfl
  | some s=>cases s<;>first | rfl | exact bN D (some t) .any
theorem Bn (l:List Nat):∀ (ts:List Nat) (D:DSt),erD (ts.foldl (forgetOne l) D)=ts.foldl (forgetOne l) (erD D)
 | [],D=>rfl
 | t::ts,D=>by simp only [List.foldl_cons];rw [Bn l ts,Bo]
theorem nB (l:List Nat) (D:DSt):erD (forget l D)=forget l (erD D):=by
 unfold forget;rw [Bn,ep]
theorem Inv.forgetOne {cx:Cx} {D:DSt} {tm:Array Value} {w:World} (I:Inv cx D [] tm w) (l:List Nat) (t:Nat):Inv cx (forgetOne l D t) [] tm w:=by
 unfold Am.forgetOne
 split
 ·exact I
 ·split
  ·exact I
  ·rename_i s h
   refine I.lose ?_
   rcases Nat.lt_or_ge t D.length with g | g
   ·exact g
   ·rw [List.getElem?_eq_none g] at h;cases h
  ·exact I
theorem Inv.forgetL {cx:Cx} {tm:Array Value} {w:World} (l:List Nat):∀ (ts:List Nat) {D:DSt},Inv cx D [] tm w→Inv cx (ts.foldl (Am.forgetOne l) D) [] tm w
 | [],D,I=>I
 | t::ts,D,I=>by simp only [List.foldl_cons];exact Inv.forgetL l ts (I.forgetOne l t)
theorem Inv.forget {cx:Cx} {D:DSt} {tm:Array Value} {w:World} (I:Inv cx D [] tm w) (l:List Nat):Inv cx (forget l D) [] tm w:=Inv.forgetL l _ I
structure gX where
 take:Nat→Nat→Bool:=fun _ _=>false
 keep:Nat→Option (List Nat):=fun _=>none
 head:Nat→Option (List Nat):=fun _=>none
 tail:Nat→Exit→Option (List Nat):=fun _ _=>none
 draw:Nat→Option (Nat×List (List Nat)):=fun _=>none
def JW {R:Type} (g:US→Option R) (K:Exit→US→Option R) (e:Exit) (D:US):Option R :=
 match e with | .normal=>g D | e=>K e D
def ox {R:Type} (body:US→(Exit→US→Option R)→Option R):Nat→US→(Exit→US→Option R)→Option R
 | 0,_,_=>none
 | m+1,D,K=>body D (JW (fun D'=>ox body m D' K) K)
def tX:Code→Option Nat
 | .region id _ _=>some id
 | .seq x y=>match tX x with | some i=>some i | none=>tX y
 | .block _ c=>tX c
 | _=>none
def atHead {δ β:Type} (h:gX) (c:Code) (D:St δ β):St δ β :=
 match (tX c).bind h.head with | some l=>forget l D | none=>D
theorem zf (h:gX) (c:Code) (D:DSt):erD (atHead h c D)=atHead h c (erD D):=by
 unfold atHead
 split
 ·exact nB _ D
 ·rfl
theorem Inv.atHead {cx:Cx} {D:DSt} {tm:Array Value} {w:World} (I:Inv cx D [] tm w) (h:gX) (c:Code):Inv cx (atHead h c D) [] tm w:=by
 unfold Am.atHead
 split
 ·exact I.forget _
 ·exact I
def atTail {δ β:Type} (h:gX) (c:Code) (e:Exit) (D:St δ β):St δ β :=
 match (tX c).bind (h.tail · e) with | some l=>forget l D | none=>D
theorem Gr (h:gX) (c:Code) (e:Exit) (D:DSt):erD (atTail h c e D)=atTail h c e (erD D):=by
 unfold atTail
 split
 ·exact nB _ D
 ·rfl
theorem Inv.atTail {cx:Cx} {D:DSt} {tm:Array Value} {w:World} (I:Inv cx D [] tm w) (h:gX) (c:Code) (e:Exit):Inv cx (atTail h c e D) [] tm w:=by
 unfold Am.atTail
 split
 ·exact I.forget _
 ·exact I
def canon {δ β:Type} (h:gX) (c:Code) (e:Exit) (D:St δ β):St δ β :=
 match e with | .normal=>atHead h c D | e=>atTail h c e D
theorem HW (h:gX) (c:Code) (e:Exit) (D:DSt):erD (canon h c e D)=canon h c e (erD D):=by
 unfold canon
 split
 ·exact zf h c D
 ·exact Gr h c _ D
theorem Inv.canon {cx:Cx} {D:DSt} {tm:Array Value} {w:World} (I:Inv cx D [] tm w) (h:gX) (c:Code) (e:Exit):Inv cx (canon h c e D) [] tm w:=by
 unfold Am.canon
 split
 ·exact I.atHead h c
 ·exact I.atTail h c _
def rc (ops:List Oper):Option (List Oper×TypeId×Operand×Nat×Bool) :=
 match ops.getLast? with
 | some ⟨some d,.binOp op t x (.const (.slice none 0 0)) _,_,_,_,none⟩=>(match op with | .eql=>some (ops.dropLast,t,x,d,false) | .neq=>some (ops.dropLast,t,x,d,true) | _=>none)
 | _=>none
def pf {δ β:Type} (M:Mk δ β) (tab:Tab) (D:St δ β) (t:TypeId) (x:Operand):Option Nat :=
 match tab.ti t with
 | some ⟨_,_,_,.slice _⟩ =>
  match opd M.nil D x with
  | some (.one (.s _ _ _ rows))=>some rows.length
  | _=>none
 | _=>none
open Classical in
noncomputable def qQ {R:Type} (D:US) (d:Nat) (ng:Bool) (n:Nat) (K:US→Option R):Option R :=
 if n=0 then
  match K (putA D d (.one (.v (.bool (!ng))))) with
  | some r=>if K (putA D d (.one (.v (.bool ng))))=some r then some r else none
  | none=>none
 else K (putA D d (.one (.v (.bool ng))))
noncomputable def ef (tab:Tab) (fns:FuncId→Option Func) (C:Sem1) (h:gX) (n:Nat) {R:Type}:Code→US→(Exit→US→Option R)→Option R
 | .skip,D,K=>K .normal D
 | .region id ops draw,D,K =>
  match draw with
  | true=>(match h.draw id with
   | some (m,anc)=>runD tab fns C (h.take id) ops m anc (match h.keep id with | some l=>forget l D | none=>D)
   | none=>none).bind fun D'=>K .normal D'
  | false =>
   match rc ops.toList with
   | some (init,t,x,d,ng)=>(runOps tab fns C (h.take id) ops init 0 (match h.keep id with | some l=>forget l D | none=>D)).bind fun D' =>
    match pf mkU tab D' t x with
    | some n=>if d<D'.length then qQ D' d ng n (K .normal) else none
    | none=>none
   | none=>(runOps tab fns C (h.take id) ops ops.toList 0 (match h.keep id with | some l=>forget l D | none=>D)).bind fun D'=>K .normal D'
 | .seq x y,D,K=>ef tab fns C h n x D fun e D'=>match e with | .normal=>ef tab fns C h n y D' K | e=>K e D'
 | .cond c x y,D,K=>match boolOf mkU D c with | some true=>ef tab fns C h n x D K | some false=>ef tab fns C h n y D K | none=>none
 | .block id c,D,K=>ef tab fns C h n c D fun e D'=>match e with | .exit id'=>if id'=id then K .normal D' else K (.exit id') D' | e=>K e D'
 | .exit id,D,K=>K (.exit id) D
 | .ret,D,K=>K .ret D
 | .loop c,D,K=>ox (fun D K=>ef tab fns C h n c D fun e D'=>K e (canon h c e D')) n (atHead h c D) K
 | _,_,_=>none
theorem Gy (tab:Tab) (D:DSt) (t:TypeId) (x:Operand):pf mkU tab (erD D) t x=pf mkD tab D t x:=by
 unfold pf
 rw [bT]
 split
 ·cases opd mkD.nil D x with
  | none=>rfl
  | some s =>
   cases s with
   | one u=>cases u<;>simp [Sl.er,T.er,zc]
   | _=>rfl
 ·rfl
theorem Ce {ops init:List Oper} {t:TypeId} {x:Operand} {d:Nat} {ng:Bool} (h:rc ops=some (init,t,x,d,ng)) :
  ∃ o:Oper,ops=init++[o]∧o.dst=some d∧o.guard=none∧∃ ty,o.op = .binOp (if ng then .neq else .eql) t x (.const (.slice none 0 0)) ty:=by
 unfold rc at h
 split at h
 case h_2=>cases h
 rename_i op t' x' ty d' p q hl
 have hne:=List.getLast?_eq_some_iff.1 hl
 obtain ⟨ys,hys⟩:=hne
 split at h
 ·cases h
  exact ⟨⟨some d,.binOp .eql t x (.const (.slice none 0 0)) ty,d',p,q,none⟩,by rw [hys];simp,rfl,rfl,ty,rfl⟩
 ·cases h
  exact ⟨⟨some d,.binOp .neq t x (.const (.slice none 0 0)) ty,d',p,q,none⟩,by rw [hys];simp,rfl,rfl,ty,rfl⟩
 ·cases h
theorem Jh {P:Program} {t e:TypeId} (hu:P.underlying t=some (.slice e)) (ng:Bool) (ad:Option Addr) (n cap:Nat) (w:World) :
  (binOp (if ng then .neq else .eql) t (.slice ad n cap) (.slice none 0 0)).run P w = .ok (.bool (if ad.isNone then !ng else ng)) w:=by
 have h1:∀ d,(Op.equalIn (d+1) t (.slice ad n cap) (.slice none 0 0)).run P w = .ok ad.isNone w:=fun d=>by
  unfold Op.equalIn
  cases ad<;>simp [run_underlying hu]
 have h2:(Op.equal t (.slice ad n cap) (.slice none 0 0)).run P w = .ok ad.isNone w:=h1 9999
 cases ng with
 | false =>
  show (do pure (.bool (← Op.equal t (.slice ad n cap) (.slice none 0 0))):Sem Value).run P w=_
  simp [h2]
  cases ad<;>rfl
 | true =>
  show (do pure (.bool (!(← Op.equal t (.slice ad n cap) (.slice none 0 0)))):Sem Value).run P w=_
  simp [h2]
  cases ad<;>rfl
theorem Inv.nilStep {P:Program} {tab:Tab} (ok:bn P tab) {ops:Array Oper} {Q:Exit→Act→World→Prop} {cx:Cx} {R:Type} {r:R} {D:DSt} {a:Act} {w:World} (I:Inv cx D [] a.tmps w) {t:TypeId} {x:Operand} {n d:Nat} {ng:Bool} {K:US→Option R} {o:Oper}
  (hn:pf mkU tab (erD D) t x=some n) (hd:d<D.length) (hop:∃ ty,o.op = .binOp (if ng then .neq else .eql) t x (.const (.slice none 0 0)) ty) (hdst:o.dst=some d) (hg:o.guard=none) (e:qQ (erD D) d ng n K=some r)
  (hQ:∀ D2 y,K (erD D2)=some r→Inv cx D2 [] (a.put o.dst y).tmps w→Q .normal (a.put o.dst y) w):wpList P ops Q [o] a w:=by
 rw [Gy] at hn
 unfold pf at hn
 split at hn
 case h_2=>cases hn
 rename_i sz by_ ze el hti
 have hu:=eS (Tab.ok ok hti) rfl
 split at hn
 case h_2=>cases hn
 rename_i k dd z rows hx
 cases hn
 have hT:=I.opd hx
 have hy:a.eval x = .slice dd.addr rows.length dd.cap:=hT.val
 obtain ⟨ty,hop⟩:=hop
 have hrun:(execOp a.eval o).run P w = .ok (.value (.bool (if dd.addr.isNone then !ng else ng))) w:=by
  unfold execOp
  rw [hop]
  have h1:=Jh hu ng dd.addr rows.length dd.cap w
  have h2:a.eval (.const (.slice none 0 0)) = .slice none 0 0:=rfl
  simp only [hy,h2]
  have h3:(eqGuard (if ng=true then BinOp.neq else BinOp.eql) t x (.const (.slice none 0 0)) (.slice dd.addr rows.length dd.cap) (.slice none 0 0)).run P w = .ok () w:=by
   cases ng<;>rfl
  simp [h1,h3]
 have go:∀ β:Bool,K (Am.putA (erD D) d (.one (.v (.bool β))))=some r→(if dd.addr.isNone then !ng else ng)=β→Q .normal (a.put o.dst (.bool (if dd.addr.isNone then !ng else ng))) w:=fun β h1 h2=>by
  refine hQ (Am.putA D d (.one (.v (.bool β)))) _ ?_ ?_
  ·rw [yj]
   exact h1
  ·rw [hdst,h2]
   exact I.putA hd (Tells.one_v (.bool β) rfl)
 unfold wpList
 rw [if_pos (by simp [Region.wanted,hg])]
 refine .inl ?_
 unfold Oper.wp
 rw [hrun]
 show wpList P ops Q [] _ w
 unfold wpList
 unfold qQ at e
 split at e
 ·split at e
  case h_2=>cases e
  rename_i r1 h1
  split at e
  case isFalse=>cases e
  rename_i h2
  cases e
  cases hb:dd.addr.isNone with
  | true=>have:=go (!ng) h1 (by simp [hb]);rwa [hb] at this
  | false=>have:=go ng h2 (by simp [hb]);rwa [hb] at this
 ·rename_i hne
  have hb:dd.addr.isNone=false:=by
   cases hq:dd.addr with
   | some _=>rfl
   | none =>
    exfalso
    have hH:=hT.mem.1 (.s k dd z rows) (by simp [aj])
    have hnil:dd.nil=true:=by
     unfold Dec.addr at hq
     split at hq
     ·cases hq
     ·cases hd2:dd.nil with
      | true=>rfl
      | false=>rw [hd2] at hq;cases hq
    exact hne (by rw [Holds.nilrows hH hnil];rfl)
  exact go ng e (by simp [hb])
def oy:Code→List Oper
 | .region _ ops _=>ops.toList
 | .seq x y=>oy x++oy y
 | .cond _ x y=>oy x++oy y
 | .block _ c=>oy c
 | .loop c=>oy c
 | _=>[]
def Ic (is:List Nat) (c:Code):Bool:=is.isEmpty || (oy c).all fun o=>match o.dst with | some t => !is.contains t | none=>true
theorem iV {P:Program} {tab:Tab} (ok:bn P tab) {fns:FuncId→Option Func} (hf:lY P fns) {B:Base} {C:Sem1} {cx:Cx} (hC:lH P B C cx) {h:gX} {n:Nat} {R:Type} {T:Act→Prop} {r:R} :
  ∀ (c:Code) {K:Exit→US→Option R} {Q:Exit→Act→World→Prop},(∀ o∈oy c,∀ a y,T a→T (a.put o.dst y))→(∀ e D' a' w',K e (erD D')=some r→T a'→Inv cx D' [] a'.tmps w'→Q e a' w') →
   ∀ {D:DSt} {a:Act} {w:World},Inv cx D [] a.tmps w→T a→ef tab fns C h n c (erD D) K=some r→c.wp P Q a w
 | .skip,K,Q,hT,hQ,D,a,w,I,hd,e=>wp_skip (hQ .normal D a w e hd I)
 | .region id ops draw,K,Q,hT,hQ,D,a,w,I,hd,e=>by
  simp only [ef] at e
  cases draw with
  | true =>
   simp only at e
   rw [Option.bind_eq_some_iff] at e
   obtain ⟨U,e1,e2⟩:=e
   split at e1
   case h_2=>cases e1
   rename_i m anc hdr
   have key:∀ D1,Inv cx D1 [] a.tmps w→Am.runD tab fns C (h.take id) ops m anc (erD D1)=some U→(Code.region id ops true).wp P Q a w:=fun D1 I1 e1 =>
    Inv.runD (tk:=h.take id) ok ok.mixed hf hC hT (fun D' a' w' h1 h2 h3=>hQ .normal D' a' w' (by rw [h1];exact e2) h2 h3) I1 hd e1
   split at e1
   ·rename_i l hl
    rw [← nB] at e1
    exact key _ (I.forget l) e1
   ·exact key _ I e1
  | false =>
   simp only at e
   refine wp_region_list ?_
   split at e
   ·rename_i init t x d ng hl
    rw [Option.bind_eq_some_iff] at e
    obtain ⟨U,e1,e2⟩:=e
    obtain ⟨o,ho,hdst,hgd,hrun⟩:=Ce hl
    have hT:∀ o'∈init++[o],∀ a y,T a→T (a.put o'.dst y):=fun o' ho'=>hT o' (by show o'∈ops.toList;rw [ho];exact ho')
    rw [ho]
    have key:∀ D1,Inv cx D1 [] a.tmps w→Am.runOps tab fns C (h.take id) ops init 0 (erD D1)=some U→wpList P ops Q (init++[o]) a w:=fun D1 I1 e1 =>
     Inv.runOps2 (tk:=h.take id) ok hf hC (fun D' a' w' h1 h2 h3=>by
      subst h1
      split at e2
      case h_2=>cases e2
      rename_i n hn
      rw [ep] at e2
      split at e2
      case isFalse=>cases e2
      rename_i hd'
      exact h3.nilStep ok hn hd' hrun hdst hgd e2 (fun D2 y h4 h5=>hQ .normal D2 _ _ h4 (hT o (by simp) a' y h2) h5)) init 0 (fun o' ho'=>hT o' (by simp [ho'])) I1 hd e1
    split at e1
    ·rename_i l hl
     rw [← nB] at e1
     exact key _ (I.forget l) e1
    ·exact key _ I e1
   rw [Option.bind_eq_some_iff] at e
   obtain ⟨U,e1,e2⟩:=e
   have key:∀ D1,Inv cx D1 [] a.tmps w→Am.runOps tab fns C (h.take id) ops ops.toList 0 (erD D1)=some U→wpList P ops Q ops.toList a w:=fun D1 I1 e1 =>
    Inv.runOps (tk:=h.take id) ok hf hC (fun D' a' w' h1 h2 h3=>hQ .normal D' a' w' (by rw [h1];exact e2) h2 h3) ops.toList 0 hT I1 hd e1
   split at e1
   ·rename_i l hl
    rw [← nB] at e1
    exact key _ (I.forget l) e1
   ·exact key _ I e1
 | .seq x y,K,Q,hT,hQ,D,a,w,I,hd,e=>by
  simp only [ef] at e
  refine wp_seq (iV ok hf hC x (fun o ho=>hT o (List.mem_append.2 (.inl ho))) (fun e' D' a' w' h1 h2 h3 => ?_) I hd e)
  cases e' with
  | normal=>exact iV ok hf hC y (fun o ho=>hT o (List.mem_append.2 (.inr ho))) hQ h3 h2 h1
  | _=>exact hQ _ D' a' w' h1 h2 h3
 | .cond c x y,K,Q,hT,hQ,D,a,w,I,hd,e=>by
  simp only [ef,Gs] at e
  split at e
  ·rename_i hb
   exact wp_cond (I.boolOf hb) (iV ok hf hC x (fun o ho=>hT o (List.mem_append.2 (.inl ho))) hQ I hd e)
  ·rename_i hb
   exact wp_cond (I.boolOf hb) (iV ok hf hC y (fun o ho=>hT o (List.mem_append.2 (.inr ho))) hQ I hd e)
  ·cases e
 | .block id c,K,Q,hT,hQ,D,a,w,I,hd,e=>by
  simp only [ef] at e
  refine wp_block (iV ok hf hC c hT (fun e' D' a' w' h1 h2 h3 => ?_) I hd e)
  cases e' with
  | exit id' =>
   simp only [Exit.inBlock]
   simp only at h1
   split
   ·rename_i hid
    rw [if_pos hid] at h1
    exact hQ .normal D' a' w' h1 h2 h3
   ·rename_i hid
    rw [if_neg hid] at h1
    exact hQ _ D' a' w' h1 h2 h3
  | _=>exact hQ _ D' a' w' h1 h2 h3
 | .exit id,K,Q,hT,hQ,D,a,w,I,hd,e=>wp_exit (hQ (.exit id) D a w e hd I)
 | .ret,K,Q,hT,hQ,D,a,w,I,hd,e=>wp_ret (hQ .ret D a w e hd I)
 | .loop c,K,Q,hT,hQ,D,a,w,I,hd,e=>by
  simp only [ef] at e
  refine wp_loop_rounds n ?_
  have key:∀ (m:Nat) {D:DSt} {a:Act} {w:World},Inv cx D [] a.tmps w→T a→ox (fun D K=>ef tab fns C h n c D fun e D'=>K e (Am.canon h c e D')) m (erD D) K=some r→Code.rounds P c Q m a w:=by
   intro m
   induction m with
   | zero=>intro D a w I hd e;cases e
   | succ m ih =>
    intro D a w I hd e
    simp only [ox] at e
    rw [rounds_succ]
    refine iV ok hf hC c hT (fun e' D' a' w' h1 h2 h3 => ?_) I hd e
    rw [← HW] at h1
    have h3':=h3.canon h c e'
    cases e' with
    | normal=>exact ih h3' h2 h1
    | _=>exact hQ _ _ a' w' h1 h2 h3'
  rw [← zf] at e
  exact key n (I.atHead h c) hd e
 | .rangeFunc ..,K,Q,hT,hQ,D,a,w,I,hd,e=>by cases e
 | .scope _,K,Q,hT,hQ,D,a,w,I,hd,e=>by cases e
 | .label _,K,Q,hT,hQ,D,a,w,I,hd,e=>by cases e
 | .goto _,K,Q,hT,hQ,D,a,w,I,hd,e=>by cases e
 | .refuse _,K,Q,hT,hQ,D,a,w,I,hd,e=>by cases e
end Go.Proofs.YtdcbjglpdbcjpaaGreatDoor.Am
namespace Go.Proofs.YtdcbjglpdbcjpaaGreatDoor.Am
set_option linter.unusedVariables false
set_option linter.unusedSimpArgs false
open Go
section
variable {δ β : Type}
def resOne (M:Mk δ β) (tab:Tab) (D:St δ β):ResultVar→Option (Bool×List (T δ)×Nat)
 | .tmp t =>
  match D[t]? with
  | some (.one u)=>some (false,[u],t)
  | some (.agg ts)=>some (true,ts,t)
  | some (.al h c st lo len) =>
   if lo=0∨0<len then
    match an D h c with
    | some u=>if u.isOwn then match getN u st with | some (.s .own d z rows)=>some (false,[.s .own (M.win d lo z) z ((rows.drop lo).take len)],h) | _=>none else none
    | none=>none
   else none
  | _=>none
 | .cell a t =>
  match D[a]?,tab.ti t with
  | some (.box _ ts),some ti=>if ts.length=ti.size∧ti.sh ≠ .other∧(ti.sh.agg=false→ts.length=1) then some (ti.sh.agg,ts,a) else none
  | _,_=>none
def resL (M:Mk δ β) (tab:Tab) (D:St δ β):List ResultVar→Option (List (Bool×List (T δ)×Nat))
 | []=>some []
 | r::rs=>(resOne M tab D r).bind fun x=>(resL M tab D rs).map fun xs=>x::xs
def ownAny (r:Bool×List (T δ)×Nat):Bool:=r.2.1.any T.isOwn
end
abbrev erT (r:Bool×List DT×Nat):Bool×List (T Unit)×Nat:=(r.1,erL r.2.1,r.2.2)
theorem GE (tab:Tab) (D:DSt) (r:ResultVar):resOne mkU tab (erD D) r=(resOne mkD tab D r).map erT:=by
 cases r with
 | tmp t =>
  simp only [resOne,bH]
  cases D[t]? with
  | none=>rfl
  | some s =>
   cases s with
   | al h c st lo len =>
    simp only [Option.map_some,Sl.er]
    split
    ·rw [iJ]
     cases an D h c with
     | none=>rfl
     | some u =>
      simp only [Option.map_some,cy]
      split
      ·rw [qM]
       cases getN u st with
       | none=>rfl
       | some n =>
        cases n with
        | s k d z rows =>
         cases k with
         | own=>simp only [Option.map_some,ax,erT];rw [← Bw];rfl
         | _=>simp [ax]
        | _=>rfl
      ·rfl
    ·rfl
   | _=>rfl
 | cell a t =>
  simp only [resOne,bH]
  cases D[a]? with
  | none=>rfl
  | some s =>
   cases s with
   | box b ts =>
    cases tab.ti t with
    | none=>rfl
    | some ti=>simp only [Option.map_some,Sl.er,List.length_map];split<;>rfl
   | _=>rfl
theorem Ex (tab:Tab) (D:DSt):∀ rs,resL mkU tab (erD D) rs=(resL mkD tab D rs).map (List.map erT)
 | []=>rfl
 | r::rs=>by
  simp only [resL,GE,Ex tab D rs]
  cases resOne mkD tab D r with
  | none=>rfl
  | some x =>
   simp only [Option.map_some,Option.bind_some]
   cases resL mkD tab D rs<;>rfl
theorem IV (f:DT→Bool) (g:T Unit→Bool) (h:∀ t,g t.er=f t) (ts:List DT):(erL ts).any g=ts.any f:=by
 simp only [erL,List.any_map];congr 1;funext t;exact h t
def bB {δ β:Type}:Nat→List (Sl δ β)→List (Nat×HK)
 | _,[]=>[]
 | k,a::as=>match ck a with | some q=>(k,q)::bB (k+1) as | none=>bB (k+1) as
section
variable {δ β : Type}
def rf (D:St δ β) (p:Nat×HK):Option (Bool×List (T δ)) :=
 match p.2,D[p.1]? with
 | .box,some (.box _ ts)=>some (true,ts)
 | .one,some (.one u)=>some (false,[u])
 | .one,some .any=>some (false,[.any])
 | .agg,some (.agg ts)=>some (true,ts)
 | _,_=>none
def lc (D:St δ β):List (Nat×HK)→Option (List (Bool×List (T δ)))
 | []=>some []
 | p::ps=>(rf D p).bind fun x=>(lc D ps).map fun xs=>x::xs
def pi (M:Mk δ β) (D:St δ β):List ResultVar→Option ((Bool×List (T δ))×Nat)
 | [.tmp t]=>(jk D (.tmp t)).bind fun h=>match D[h]? with | some (.box b ts)=>if ts.all T.fine=true∧0<ts.length then some ((false,[.s .own (M.ptr b) ts.length [ts],.any]),h) else none | _=>none
 | _=>none
def rL (M:Mk δ β) (tab:Tab) (D:St δ β) (hs:List (Nat×HK)) (rs:List ResultVar):Option (List (Bool×List (T δ))) :=
 match pi M D rs with
 | some (r,t)=>(lc D hs).bind fun os=>if (os.all fun r=>r.2.all T.fine)=true∧(hs.map (·.1)++[t]).Nodup then some (os++[r]) else none
 | none=>(lc D hs).bind fun os=>(resL M tab D rs).bind fun l =>
  if (os.all fun r=>r.2.all T.fine)=true∧(l.all fun r=>r.2.1.all T.fine)=true∧(hs.map (·.1)++(l.filter ownAny).map (·.2.2)).Nodup then some (os++l.map fun r=>(r.1,r.2.1)) else none
end
theorem IY (s:DSl):ck s.er=ck s:=by
 cases s with
 | one u=>simp only [Sl.er,ck,cy]
 | agg ts =>
  simp only [Sl.er,ck]
  rw [show (List.map T.er ts).any T.isOwn=ts.any T.isOwn by rw [List.any_map];congr 1;funext t;exact cy t]
 | _=>rfl
theorem wX:∀ (k:Nat) (ad:List DSl),bB k (ad.map Sl.er)=bB k ad
 | _,[]=>rfl
 | k,a::as=>by
  simp only [List.map_cons,bB,IY,wX (k+1) as]
theorem GB (D:DSt) (p:Nat×HK):rf (erD D) p=(rf D p).map fun r=>(r.1,erL r.2):=by
 obtain ⟨i,k⟩:=p
 simp only [rf,bH]
 cases D[i]? with
 | none=>cases k<;>rfl
 | some s=>cases s<;>cases k<;>rfl
theorem Bt (D:DSt):∀ ps,lc (erD D) ps=(lc D ps).map erR
 | []=>rfl
 | p::ps=>by
  simp only [lc,GB,Bt D ps]
  cases rf D p with
  | none=>rfl
  | some x =>
   simp only [Option.map_some,Option.bind_some]
   cases lc D ps<;>rfl
def tN {δ β:Type} (M:Mk δ β) (tab:Tab) (D:St δ β) (hs:List (Nat×HK)) (rs:List ResultVar):Option (List (Bool×List (T δ))) :=
 if (hs.all fun p=>match p.2 with | .one=>true | _=>false)=true then (rL M tab D [] rs).map fun r=>hs.map (fun _=>(false,[.any]))++r else none
theorem GD (D:DSt) (rs:List ResultVar):pi mkU (erD D) rs=(pi mkD D rs).map fun p=>((p.1.1,erL p.1.2),p.2):=by
 unfold pi
 split
 ·rename_i t
  rw [rP]
  cases jk D (.tmp t) with
  | none=>rfl
  | some h =>
  simp only [Option.bind_some]
  rw [bH]
  cases D[h]? with
  | none=>rfl
  | some s =>
   cases s with
   | box b ts =>
    simp only [Option.map_some,Sl.er]
    rw [show (List.map T.er ts).all T.fine=ts.all T.fine from gj T.fine T.fine mS ts,List.length_map]
    split
    ·simp only [Option.map_some,erL,List.map_cons,List.map_nil,ax];rfl
    ·rfl
   | _=>rfl
 ·rfl
theorem Et (tab:Tab) (D:DSt) (hs:List (Nat×HK)) (rs:List ResultVar):rL mkU tab (erD D) hs rs=(rL mkD tab D hs rs).map erR:=by
 unfold rL
 rw [Bt,Ex,GD]
 have h0:∀ os:cY,((erR os).all fun r=>r.2.all T.fine)=(os.all fun r=>r.2.all T.fine):=by
  intro os
  unfold erR
  rw [List.all_map]
  congr 1;funext r
  exact gj T.fine T.fine mS r.2
 cases hpr:pi mkD D rs with
 | some p =>
  obtain ⟨r,t⟩:=p
  simp only [Option.map_some]
  cases lc D hs with
  | none=>rfl
  | some os =>
   simp only [Option.map_some,Option.bind_some,h0]
   split
   ·simp only [Option.map_some,rN]
    rfl
   ·rfl
 | none =>
 simp only [Option.map_none]
 cases lc D hs with
 | none=>rfl
 | some os =>
  simp only [Option.map_some,Option.bind_some]
  cases resL mkD tab D rs with
  | none=>rfl
  | some l =>
   simp only [Option.map_some,Option.bind_some]
   have h0:((erR os).all fun r=>r.2.all T.fine)=(os.all fun r=>r.2.all T.fine):=by
    unfold erR
    rw [List.all_map]
    congr 1;funext r
    exact gj T.fine T.fine mS r.2
   have h1:((l.map erT).all fun r=>r.2.1.all T.fine)=(l.all fun r=>r.2.1.all T.fine):=by
    rw [List.all_map]
    congr 1;funext r
    exact gj T.fine T.fine mS r.2.1
   have h2:((l.map erT).filter ownAny).map (·.2.2)=(l.filter ownAny).map (·.2.2):=by
    rw [List.filter_map,List.map_map]
    have:(ownAny ∘ erT:Bool×List DT×Nat→Bool)=ownAny:=by
     funext r;exact IV T.isOwn T.isOwn cy r.2.1
    rw [this];rfl
   rw [h0,h1,h2]
   split
   ·simp only [Option.map_some,rN]
    congr 2
    unfold erR
    rw [List.map_map,List.map_map];rfl
   ·rfl
theorem IX (tab:Tab) (D:DSt) (hs:List (Nat×HK)) (rs:List ResultVar):tN mkU tab (erD D) hs rs=(tN mkD tab D hs rs).map erR:=by
 unfold tN
 split
 ·rw [Et,Option.map_map,Option.map_map]
  congr 1
  funext r
  simp only [Function.comp,rN]
  congr 1
  unfold erR
  rw [List.map_map]
  rfl
 ·rfl
structure ET (P:Program) (D:DSt) (tm:Array Value) (w:World) (r:ResultVar) (x:Bool×List DT×Nat) (y:Value):Prop where
 run:(match r with | .tmp t=>(pure (tm.getD t undef):Sem Value) | .cell a t=>do loadVar t (← asAddr (tm.getD a undef))).run P w = .ok y w
 part:VPart (x.1,x.2.1) y
 holds:∀ t∈x.2.1,Holds w t
 own:∀ t∈x.2.1,t.isOwn=true→OwnT w t
 home:∃ s,D[x.2.2]?=some s∧∀ b,(x.2.1.flatMap ownR).count b≤(ownBl s).count b
theorem Inv.resOne {P:Program} {tab:Tab} (ok:bn P tab) {cx:Cx} {D:DSt} {tm:Array Value} {w:World} (I:Inv cx D [] tm w) {r:ResultVar} {x:Bool×List DT×Nat}
  (e:resOne mkD tab D r=some x):∃ y,ET P D tm w r x y:=by
 cases r with
 | tmp t =>
  simp only [Am.resOne] at e
  split at e
  ·rename_i u h
   cases e
   have hv:=I.val t _ h
   have hm:=I.mem _ (List.mem_of_getElem? h)
   exact ⟨_,⟨rfl,⟨u,rfl,hv⟩,fun v hv'=>hm.1 v (by simpa [aj] using hv'),fun v hv'=>hm.2.1 v (by simpa [rootsO] using hv'),_,h,fun b=>by simp [ownBl]⟩⟩
  ·rename_i ts h
   cases e
   have hv:=I.val t _ h
   have hm:=I.mem _ (List.mem_of_getElem? h)
   exact ⟨_,⟨rfl,hv,hm.1,hm.2.1,_,h,fun b=>Nat.le_refl _⟩⟩
  ·rename_i h c st lo len hD
   split at e
   case isFalse=>cases e
   rename_i hcond
   split at e
   case h_2=>cases e
   rename_i u hu
   split at e
   case isFalse=>cases e
   rename_i ho
   split at e
   case h_2=>cases e
   rename_i d z rows hg
   cases e
   have hv:=I.val t _ hD
   obtain ⟨d',z',n,ad,⟨t1,q1,q2,k2,rows2,q3,q4⟩,hle,hy,ha,ha0⟩:=hv
   rw [hu] at q1;cases q1
   rw [hg] at q3;cases q3
   obtain ⟨s,hs,hsm,hr,hr',hsub⟩:=bF hu
   have hm:=I.mem s hsm
   have g5:=Holds.getN st (hm.1 u hr) hg
   have g6:=OwnT.getN st (hm.2.1 u hr' ho) hg
   refine ⟨_,⟨rfl,⟨_,rfl,?_⟩,fun v hv' => ?_,fun v hv' _ => ?_,s,hs,fun b => ?_⟩⟩
   ·rw [hy]
    exact wP (by omega) g5.cap g6.sp rfl ha ha0 g5.nilrows hcond
   ·simp at hv';subst hv';exact g5.win lo len (by omega)
   ·simp at hv';subst hv';exact g6.win lo len (by omega)
   ·have h1:=oN (k := .own) (k' := .own) (d:=d) (z:=z) rows lo len b
    have h2:=gz st hg b
    have h3:(bl u).count b≤(ownBl s).count b:=by
     unfold an at hu
     simp only [Option.bind_eq_some_iff] at hu
     obtain ⟨cs,⟨s',hs',hcs⟩,ht⟩:=hu
     rw [hs] at hs';cases hs'
     have h4:=mA hcs b
     have h5:=bq ownR (T.any:DT) b cs c u ht
     have h6:(ownR (T.any:DT)).count b=0:=rfl
     have h7:ownR u=bl u:=by simp [ownR,ho]
     rw [h7] at h5
     omega
    simp only [List.flatMap_cons,List.flatMap_nil,List.append_nil,ownR,T.isOwn,if_true]
    omega
  ·cases e
 | cell a t =>
  simp only [Am.resOne] at e
  split at e
  ·rename_i b ts ti hD hti
   split at e
   case isFalse=>cases e
   rename_i hc
   cases e
   have hv:=I.val a _ hD
   have hm:=I.mem _ (List.mem_of_getElem? hD)
   have C:Cells w b.1 b.2 ts:=⟨hm.2.2.1,hm.1⟩
   obtain ⟨y,h1,h2⟩:=C.load (Tab.ok ok hti) hc.2.1 hc.1 hc.2.2
   have hy:tm.getD a undef = .pointer (some ⟨b.1,b.2,none⟩):=hv
   refine ⟨y,⟨?_,?_,hm.1,hm.2.1,_,hD,fun x => ?_⟩⟩
   ·show ((do loadVar t (← asAddr (tm.getD a undef))):Sem Value).run P w=_
    rw [hy]
    exact h1
   ·unfold VPart
    simp only
    split at h2
    ·rename_i ha;rw [if_pos ha];exact h2
    ·rename_i ha;rw [if_neg ha];exact h2
   ·simp only [ownBl,List.count_cons];omega
  ·cases e
end Go.Proofs.YtdcbjglpdbcjpaaGreatDoor.Am
namespace Go.Proofs.YtdcbjglpdbcjpaaGreatDoor.Am
set_option linter.unusedVariables false
set_option linter.unusedSimpArgs false
open Go
def uC (tm:Array Value):ResultVar→Sem Value
 | .tmp t=>pure (tm.getD t undef)
 | .cell a t=>do loadVar t (← asAddr (tm.getD a undef))
theorem Inv.resL {P:Program} {tab:Tab} (ok:bn P tab) {cx:Cx} {D:DSt} {tm:Array Value} {w:World} (I:Inv cx D [] tm w):∀ {rs:List ResultVar} {l:List (Bool×List DT×Nat)},
  resL mkD tab D rs=some l→∃ ys:List Value,ys.length=l.length∧(rs.mapM (uC tm)).run P w = .ok ys w∧∀ (i:Nat) (x:Bool×List DT×Nat) (y:Value),l[i]?=some x→ys[i]?=some y→∃ r,ET P D tm w r x y
 | [],l,e=>by cases e;exact ⟨[],rfl,by simp,fun i x y h=>by simp at h⟩
 | r::rs,l,e=>by
  simp only [Am.resL,Option.bind_eq_some_iff,Option.map_eq_some_iff] at e
  obtain ⟨x,h1,xs,h2,rfl⟩:=e
  obtain ⟨y,hy⟩:=I.resOne ok h1
  obtain ⟨ys,g1,g2,g3⟩:=Inv.resL ok I h2
  refine ⟨y::ys,by simp [g1],?_,fun i x' y' hi hy' => ?_⟩
  ·have hr:(uC tm r).run P w = .ok y w:=by
    have:=hy.run
    cases r<;>exact this
   simp [List.mapM_cons,hr,g2]
  ·cases i with
   | zero=>simp at hi hy';subst hi;subst hy';exact ⟨r,hy⟩
   | succ i=>simp at hi hy';exact g3 i x' y' hi hy'
def uD:List Value→Value
 | [y]=>y
 | ys => .tuple ys.toArray
theorem vJ {P:Program} (fn:Func) (tm:Array Value) (w:World) {ys:List Value} (h:(fn.results.toList.mapM (uC tm)).run P w = .ok ys w) :
  (results fn tm).run P w = .ok (uD ys) w:=by
 have e:results fn tm=(do let vs ← fn.results.mapM (uC tm);pure (if h:vs.size=1 then vs[0] else .tuple vs)):=by
  unfold results
  congr 1
 rw [e,Array.mapM_eq_mapM_toList]
 simp only [Sem.run_bind,Sem.run_map,h]
 match ys with
 | []=>simp [uD]
 | [y]=>simp [uD]
 | y::y'::ys=>simp [uD]
theorem yK:∀ (l:List (List Nat×Nat)) (D:DSt),(l.map (·.2)).Nodup→(∀ x∈l,∃ s,D[x.2]?=some s∧∀ b,x.1.count b≤(ownBl s).count b)→∀ b,(l.flatMap (·.1)).count b≤ba D b
 | [],D,_,_,b=>by simp
 | x::l,D,hn,h,b=>by
  rw [List.map_cons,List.nodup_cons] at hn
  obtain ⟨hn1,hn2⟩:=hn
  obtain ⟨s,hs,hc⟩:=h x (by simp)
  have h1:=bq ownBl (Sl.any:DSl) b D x.2 s hs
  have h0:(ownBl (Sl.any:DSl)).count b=0:=rfl
  have h2:=yK l (D.set x.2 .any) hn2 (fun y hy=>by
   obtain ⟨s',hs',hc'⟩:=h y (by simp [hy])
   have hne:x.2≠y.2:=fun e=>hn1 (by rw [e];exact List.mem_map.2 ⟨y,hy,rfl⟩)
   exact ⟨s',by rw [List.getElem?_set_ne hne];exact hs',hc'⟩) b
  have h3:=hc b
  rw [List.flatMap_cons,List.count_append]
  unfold ba at *
  omega
theorem FS (l:List (Bool×List DT×Nat)):(l.flatMap fun r=>r.2.1.flatMap ownR)=((l.filter ownAny).flatMap fun r=>r.2.1.flatMap ownR):=by
 induction l with
 | nil=>rfl
 | cons y l' ih =>
  by_cases hy:ownAny y=true
  ·rw [List.filter_cons_of_pos hy,List.flatMap_cons,List.flatMap_cons,ih]
  ·rw [List.filter_cons_of_neg hy,List.flatMap_cons,ih]
   have:y.2.1.flatMap ownR=[]:=by
    rw [List.flatMap_eq_nil_iff]
    intro t ht
    refine dV ?_
    cases ho:t.isOwn with
    | false=>rfl
    | true=>exact absurd (by unfold ownAny;rw [List.any_eq_true];exact ⟨t,ht,ho⟩) hy
   rw [this];rfl
theorem yI {cx:Cx} {D:DSt} {tm:Array Value} {w:World} (I:Inv cx D [] tm w) {w0:World} {X:List Nat}:∀ (ad:List DSl) (vs:List Value) (k:Nat) {os:cY},ad.length=vs.length →
  (∀ (i:Nat) (a:DSl) (y:Value),ad[i]?=some a→vs[i]?=some y→AOk w0 X a y)→lc D (bB k ad)=some os →
  (∀ (i:Nat) (a:DSl) (y:Value),ad[i]?=some a→vs[i]?=some y→(ck a).isSome=true→tm.getD (k+i) undef=y) →
  OutsOk w ad vs os∧(∀ r∈os,∃ s∈D,∀ t∈r.2,t = .any∨t∈rootsO s∧t∈aj s)∧(∀ p∈bB k ad,p.1<D.length) ∧
   ∀ b,(bh os).count b+(ad.flatMap cd).count b≤(((bB k ad).map fun p=>(ownBl (D[p.1]?.getD .any),p.1)).flatMap (·.1)).count b
 | [],vs,k,os,_,_,e,_=>by
  cases e
  refine ⟨?_,fun r h=>(by cases h),fun p h=>(by cases h),fun b=>by simp [bh]⟩
  cases vs<;>exact rfl
 | a::as,[],k,os,hl,_,_,_=>by simp at hl
 | a::as,y::ys,k,os,hl,hA,e,hT=>by
  have ih:=fun {os}=>yI I (w0:=w0) (X:=X) as ys (k+1) (os:=os) (by simpa using hl) (fun i a' y' h1 h2=>hA (i+1) a' y' (by simpa using h1) (by simpa using h2))
  have hT':∀ (i:Nat) (a:DSl) (y:Value),as[i]?=some a→ys[i]?=some y→(ck a).isSome=true→tm.getD (k+1+i) undef=y:=fun i a' y' h1 h2 h3=>by
   rw [show k+1+i=k+(i+1) by omega]
   exact hT (i+1) a' y' (by simpa using h1) (by simpa using h2) h3
  unfold bB at e ⊢
  cases hk:ck a with
  | none =>
   rw [hk] at e
   obtain ⟨i1,i2,i3,i4⟩:=ih e hT'
   have hb:cd a=[]:=by cases a<;>first | rfl | cases hk
   refine ⟨?_,i2,i3,fun b => ?_⟩
   ·unfold OutsOk;rw [hk];exact i1
   ·rw [List.flatMap_cons,hb,List.nil_append];exact i4 b
  | some q =>
   rw [hk] at e
   simp only [lc,Option.bind_eq_some_iff,Option.map_eq_some_iff] at e
   obtain ⟨o,e1,os',e2,rfl⟩:=e
   obtain ⟨i1,i2,i3,i4⟩:=ih e2 hT'
   have hy:tm.getD k undef=y:=hT 0 a y rfl rfl (by rw [hk];rfl)
   have hAk:=hA 0 a y rfl rfl
   have key:wI w a y o∧∃ s,D[k]?=some s∧(∀ t∈o.2,t = .any∨t∈rootsO s∧t∈aj s)∧∀ b,(o.2.flatMap ownR).count b+(cd a).count b≤(ownBl s).count b:=by
    unfold rf at e1
    split at e1
    ·rename_i b' ts' hq hD
     cases e1
     have hb:∃ b ts,a = .box b ts:=If (by rw [hk];exact congrArg some hq)
     obtain ⟨b,ts,rfl⟩:=hb
     have v1:y = .pointer (some ⟨b.1,b.2,none⟩):=hAk.val D
     have v2:tm.getD k undef = .pointer (some ⟨b'.1,b'.2,none⟩):=I.val k _ hD
     rw [hy,v1] at v2
     simp only [Value.pointer.injEq,Option.some.injEq,Addr.mk.injEq] at v2
     have hbb:b'=b:=by obtain ⟨p1,p2⟩:=b;obtain ⟨p3,p4⟩:=b';simp at v2;simp [v2.1,v2.2]
     subst hbb
     have hm:=I.mem _ (List.mem_of_getElem? hD)
     exact ⟨⟨rfl,hm.2.2.1,hm.2.2.2⟩,_,hD,fun t ht => .inr ⟨ht,ht⟩,fun x=>by simp only [ownBl,cd,List.count_cons,List.count_nil];omega⟩
    ·rename_i u hq hD
     cases e1
     have hb:∃ u,a = .one u:=wd (by rw [hk];exact congrArg some hq)
     obtain ⟨u0,rfl⟩:=hb
     have v2:=I.val k _ hD
     rw [hy] at v2
     exact ⟨⟨⟨u,rfl,v2⟩,rfl⟩,_,hD,fun t ht => .inr ⟨by simpa [rootsO] using ht,by simpa [aj] using ht⟩,fun x=>by simp [ownBl,cd]⟩
    ·rename_i hq hD
     cases e1
     have hb:∃ u,a = .one u:=wd (by rw [hk];exact congrArg some hq)
     obtain ⟨u0,rfl⟩:=hb
     have v1:VT u0 y:=hAk.val D
     exact ⟨⟨⟨.any,rfl,v1.one⟩,rfl⟩,_,hD,fun t ht => .inl (by simpa using ht),fun x=>by simp [ownBl,cd,ownR,T.isOwn]⟩
    ·rename_i ts hq hD
     cases e1
     have hb:∃ u,a = .agg u:=Ie (by rw [hk];exact congrArg some hq)
     obtain ⟨u0,rfl⟩:=hb
     have v2:=I.val k _ hD
     rw [hy] at v2
     exact ⟨⟨v2,rfl⟩,_,hD,fun t ht => .inr ⟨ht,ht⟩,fun x=>by simp [ownBl,cd]⟩
    ·cases e1
   obtain ⟨k1,s,k2,k3,k4⟩:=key
   refine ⟨?_,fun r hr => ?_,fun p hp => ?_,fun b => ?_⟩
   ·unfold OutsOk;rw [hk];exact ⟨o,os',rfl,k1,i1⟩
   ·rcases List.mem_cons.1 hr with rfl | hr
    ·exact ⟨s,List.mem_of_getElem? k2,k3⟩
    ·exact i2 r hr
   ·rcases List.mem_cons.1 hp with rfl | hp
    ·exact dC k2
    ·exact i3 p hp
   ·have h1:=k4 b
    have h2:=i4 b
    simp only [bh,List.flatMap_cons,List.map_cons,List.count_append,k2,Option.getD_some] at *
    omega
theorem Ia {w:World} {t:DT} (h:t.fine=true) (ho:t.isOwn=true→OwnT w t):OwnT w t:=by
 cases t with
 | v x=>exact .v x
 | any=>exact .any
 | s k d z r=>cases k<;>first | exact ho rfl | cases h
theorem Inv.endPtr {P:Program} {D:DSt} {tm:Array Value} {w0 w:World} {X:List Nat} (I:Inv ⟨w0,X⟩ D [] tm w) {ad:List DSl} {vs:List Value} (hA:ArgsOk w0 X ad vs)
  (hT:∀ (i:Nat) (a:DSl) (y:Value),ad[i]?=some a→vs[i]?=some y→(ck a).isSome=true→tm.getD i undef=y) {fn:Func} {r:Bool×List DT} {t:Nat}
  (hpr:pi mkD D fn.results.toList=some (r,t)) {os:cY} (h0:lc D (bB 0 ad)=some os) (hfo:(os.all fun r=>r.2.all T.fine)=true) (hnd:((bB 0 ad).map (·.1)++[t]).Nodup) :
  ∃ v od rd,os++[r]=od++rd∧(results fn tm).run P w = .ok v w∧OutsOk w ad vs od∧RetOk w0 X w (ad.flatMap cd) od rd v:=by
 unfold pi at hpr
 split at hpr
 case h_2=>cases hpr
 rename_i t' hrs
 rw [Option.bind_eq_some_iff] at hpr
 obtain ⟨h',hch,hpr⟩:=hpr
 split at hpr
 case h_2=>cases hpr
 rename_i b ts hD
 split at hpr
 case isFalse=>cases hpr
 rename_i hc
 cases hpr
 obtain ⟨hfine,hpos⟩:=hc
 have hfine':∀ u∈ts,u.fine=true:=fun u hu=>List.all_eq_true.1 hfine u hu
 obtain ⟨o1,o2,o3,o4⟩:=yI I ad vs 0 hA.1 hA.2.1 h0 (fun i a y q1 q2 q3=>by rw [Nat.zero_add];exact hT i a y q1 q2 q3)
 have hm:=I.mem _ (List.mem_of_getElem? hD)
 have hv:tm.getD t' undef = .pointer (some ⟨b.1,b.2,none⟩):=by
  unfold jk at hch
  simp only at hch
  split at hch
  ·rename_i b' ts' hb
   cases hch
   rw [hD] at hb
   cases hb
   exact I.val _ _ hD
  ·rename_i h2 hb
   cases hch
   obtain ⟨b',ts',k1,k2⟩:=I.val _ _ hb
   rw [hD] at k1
   cases k1
   exact k2
  ·cases hch
 have hrun:(results fn tm).run P w = .ok (uD [tm.getD t' undef]) w:=vJ fn tm w (by rw [hrs];simp [List.mapM_cons,uC])
 obtain ⟨hm1,hm2,⟨c,e,f,l1,l2⟩,hfr⟩:=hm
 have hsz:b.2+ts.length≤c.size:=by
  have hlt:ts.length-1<ts.length:=by omega
  obtain ⟨y,hy,_⟩:=l2 (ts.length-1) ts[ts.length-1] (List.getElem?_eq_getElem hlt)
  rcases Nat.lt_or_ge (b.2+(ts.length-1)) c.size with g | g
  ·omega
  ·rw [Array.getElem?_eq_none g] at hy;cases hy
 have row0:∀ (i:Nat) (row:List DT),([ts]:List (List DT))[i]?=some row→i=0∧row=ts:=by
  intro i row h
  cases i with
  | zero=>simp at h;exact ⟨rfl,h.symm⟩
  | succ i=>simp at h
 have hHold:Holds w (.s .own (mkD.ptr b) ts.length [ts]):=by
  refine .s _ _ _ _ rfl rfl c e f l1 (by simp [mkD]) (fun i row h=>by rw [(row0 i row h).2]) (fun i row j u h1 h2 => ?_) fun i row j u h1 h2 => ?_
  ·obtain ⟨rfl,rfl⟩:=row0 i row h1
   simpa [mkD] using l2 j u h2
  ·obtain ⟨rfl,rfl⟩:=row0 i row h1
   exact hm1 u (List.mem_of_getElem? h2)
 have hOwn:OwnT w (.s .own (mkD.ptr b) ts.length [ts]):=by
  obtain ⟨lo,hi⟩:=f
  refine .s _ _ _ rfl rfl c e lo hi l1 (by simp [mkD]) (by simpa [mkD] using hsz) (fun x h1 h2=>hfr c e lo hi l1 x h1 (by simpa [mkD] using h2)) fun i row j u h1 h2 => ?_
  obtain ⟨rfl,rfl⟩:=row0 i row h1
  have hu:=List.mem_of_getElem? h2
  exact Ia (hfine' u hu) (hm2 u hu)
 have hbl:bh ([(false,[.s .own (mkD.ptr b) ts.length [ts],.any])]:cY)=ownBl (.box b ts):=by
  simp only [bh,ownBl,List.flatMap_cons,List.flatMap_nil,List.append_nil,ownR,T.isOwn,if_true,cj,mkD]
  simp [← yk hfine']
 have hsum:=yK (((bB 0 ad).map fun p=>(ownBl (D[p.1]?.getD .any),p.1))++[(ownBl (.box b ts),t)]) D
  (by rw [List.map_append,List.map_map];exact hnd) (fun x hx=>by
   rcases List.mem_append.1 hx with hx | hx
   ·obtain ⟨p,hp,rfl⟩:=List.mem_map.1 hx
    have:=o3 p hp
    exact ⟨D[p.1],List.getElem?_eq_getElem this,fun b=>by rw [List.getElem?_eq_getElem this];exact Nat.le_refl _⟩
   ·rw [List.mem_singleton] at hx;subst hx
    exact ⟨_,hD,fun b=>Nat.le_refl _⟩)
 have htot:∀ x,(bh (os++[(false,[.s .own (mkD.ptr b) ts.length [ts],.any])])).count x+(ad.flatMap cd).count x≤ba D x:=by
  intro x
  have q1:=hsum x
  have q2:=o4 x
  rw [List.flatMap_append,List.count_append] at q1
  rw [jX,List.count_append,hbl]
  simp only [List.flatMap_cons,List.flatMap_nil,List.append_nil] at q1
  omega
 refine ⟨_,os,_,rfl,hrun,o1,⟨.inr (.inr ⟨_,_,_,rfl,hv⟩),?_,?_,?_,?_,?_⟩⟩
 ·intro r hr u hu
  rcases List.mem_append.1 hr with hr | hr
  ·exact List.all_eq_true.1 (List.all_eq_true.1 hfo r hr) u hu
  ·rw [List.mem_singleton] at hr;subst hr
   simp only [List.mem_cons,List.not_mem_nil,or_false] at hu
   rcases hu with rfl | rfl<;>rfl
 ·intro r hr u hu
  rcases List.mem_append.1 hr with hr | hr
  ·obtain ⟨s,q1,q2⟩:=o2 r hr
   exact (q2 u hu).elim (fun e=>by subst e;exact .any) fun q=>(I.mem s q1).1 u q.2
  ·rw [List.mem_singleton] at hr;subst hr
   simp only [List.mem_cons,List.not_mem_nil,or_false] at hu
   rcases hu with rfl | rfl
   ·exact hHold
   ·exact .any
 ·intro r hr u hu ho
  rcases List.mem_append.1 hr with hr | hr
  ·obtain ⟨s,q1,q2⟩:=o2 r hr
   exact (q2 u hu).elim (fun e=>by subst e;cases ho) fun q=>(I.mem s q1).2.1 u q.1 ho
  ·rw [List.mem_singleton] at hr;subst hr
   simp only [List.mem_cons,List.not_mem_nil,or_false] at hu
   rcases hu with rfl | rfl
   ·exact hOwn
   ·cases ho
 ·intro x
  have q1:=htot x
  have q2:=I.once x
  omega
 ·intro x hx
  have q1:=htot x
  have q3:0<ba D x:=by
   have:=List.count_pos_iff.2 hx
   omega
  exact I.bnd x (by omega)
theorem Inv.ends {P:Program} {tab:Tab} (ok:bn P tab) {D:DSt} {tm:Array Value} {w0 w:World} {X:List Nat} (I:Inv ⟨w0,X⟩ D [] tm w) {ad:List DSl} {vs:List Value} (hA:ArgsOk w0 X ad vs)
  (hT:∀ (i:Nat) (a:DSl) (y:Value),ad[i]?=some a→vs[i]?=some y→(ck a).isSome=true→tm.getD i undef=y) {fn:Func} {all:cY}
  (e:rL mkD tab D (bB 0 ad) fn.results.toList=some all):∃ v od rd,all=od++rd∧(results fn tm).run P w = .ok v w∧OutsOk w ad vs od∧RetOk w0 X w (ad.flatMap cd) od rd v:=by
 unfold rL at e
 split at e
 ·rename_i r t hpr
  rw [Option.bind_eq_some_iff] at e
  obtain ⟨os,h0,e⟩:=e
  split at e
  case isFalse=>cases e
  rename_i hc
  cases e
  exact I.endPtr hA hT hpr h0 hc.1 hc.2
 rw [Option.bind_eq_some_iff] at e
 obtain ⟨os,h0,e⟩:=e
 rw [Option.bind_eq_some_iff] at e
 obtain ⟨l,h1,e⟩:=e
 split at e
 case isFalse=>cases e
 rename_i hc
 cases e
 obtain ⟨hfo,hfine,hnd⟩:=hc
 obtain ⟨o1,o2,o3,o4⟩:=yI I ad vs 0 hA.1 hA.2.1 h0 (fun i a y q1 q2 q3=>by rw [Nat.zero_add];exact hT i a y q1 q2 q3)
 obtain ⟨ys,g1,g2,g3⟩:=I.resL ok h1
 have hget:∀ x∈l,∃ (i:Nat) (y:Value) (r:ResultVar),l[i]?=some x∧ys[i]?=some y∧ET P D tm w r x y:=by
  intro x hx
  obtain ⟨i,hi⟩:=List.getElem?_of_mem hx
  have hlt:i<ys.length:=by
   rw [g1]
   exact dC hi
  obtain ⟨r,hr⟩:=g3 i x ys[i] hi (List.getElem?_eq_getElem hlt)
  exact ⟨i,ys[i],r,hi,List.getElem?_eq_getElem hlt,hr⟩
 have hmem:∀ r∈l.map (fun r=>(r.1,r.2.1)),∃ x∈l,r=(x.1,x.2.1):=fun r hr=>by
  obtain ⟨x,hx,rfl⟩:=List.mem_map.1 hr
  exact ⟨x,hx,rfl⟩
 have hflat:bh (l.map fun r=>(r.1,r.2.1))=l.flatMap fun r=>r.2.1.flatMap ownR:=by
  unfold bh
  rw [List.flatMap_map]
 have hsum:=yK (((bB 0 ad).map fun p=>(ownBl (D[p.1]?.getD .any),p.1))++(l.filter ownAny).map fun r=>(r.2.1.flatMap ownR,r.2.2)) D
  (by rw [List.map_append,List.map_map,List.map_map];exact hnd) (fun x hx=>by
   rcases List.mem_append.1 hx with hx | hx
   ·obtain ⟨p,hp,rfl⟩:=List.mem_map.1 hx
    have:=o3 p hp
    exact ⟨D[p.1],List.getElem?_eq_getElem this,fun b=>by rw [List.getElem?_eq_getElem this];exact Nat.le_refl _⟩
   ·obtain ⟨r,hr,rfl⟩:=List.mem_map.1 hx
    obtain ⟨i,y,r',_,_,hr'⟩:=hget r (List.mem_filter.1 hr).1
    exact hr'.home)
 have htot:∀ b,(bh (os++l.map fun r=>(r.1,r.2.1))).count b+(ad.flatMap cd).count b≤ba D b:=by
  intro b
  have q1:=hsum b
  have q2:=o4 b
  rw [List.flatMap_append,List.count_append] at q1
  rw [jX,List.count_append,hflat,FS]
  have q3:((l.filter ownAny).map fun r=>(r.2.1.flatMap ownR,r.2.2)).flatMap (·.1)=(l.filter ownAny).flatMap fun r=>r.2.1.flatMap ownR:=by rw [List.flatMap_map]
  rw [q3] at q1
  omega
 refine ⟨_,os,_,rfl,vJ fn tm w g2,o1,⟨?_,?_,?_,?_,?_,?_⟩⟩
 ·have hp:∀ (i:Nat) (r:Bool×List DT) (y:Value),(l.map fun r=>(r.1,r.2.1))[i]?=some r→ys[i]?=some y→VPart r y:=by
   intro i r y hi hy
   rw [List.getElem?_map,Option.map_eq_some_iff] at hi
   obtain ⟨x,hx,rfl⟩:=hi
   obtain ⟨r',hr'⟩:=g3 i x y hx hy
   exact hr'.part
  match ys,l,g1,hp with
  | [y],[x],_,hp=>exact .inl ⟨_,rfl,hp 0 _ y rfl rfl⟩
  | [],[],_,hp=>exact .inr (.inl ⟨by simp,⟨#[],rfl,rfl,fun i r v h=>by simp at h⟩⟩)
  | y::y'::ys,x::x'::l,hl,hp =>
   refine .inr (.inl ⟨by simp,⟨(y::y'::ys).toArray,rfl,by simp at hl ⊢;omega,fun i r v hi hv=>hp i r v hi hv⟩⟩)
  | [],x::l,hl,_=>simp at hl
  | y::ys,[],hl,_=>simp at hl
  | [y],x::x'::l,hl,_=>simp at hl
  | y::y'::ys,[x],hl,_=>simp at hl
 ·intro r hr t ht
  rcases List.mem_append.1 hr with hr | hr
  ·exact List.all_eq_true.1 (List.all_eq_true.1 hfo r hr) t ht
  ·obtain ⟨x,hx,rfl⟩:=hmem r hr
   exact List.all_eq_true.1 (List.all_eq_true.1 hfine x hx) t ht
 ·intro r hr t ht
  rcases List.mem_append.1 hr with hr | hr
  ·obtain ⟨s,q1,q2⟩:=o2 r hr
   exact (q2 t ht).elim (fun e=>by subst e;exact .any) fun q=>(I.mem s q1).1 t q.2
  ·obtain ⟨x,hx,rfl⟩:=hmem r hr
   obtain ⟨i,y,r',_,_,hr'⟩:=hget x hx
   exact hr'.holds t ht
 ·intro r hr t ht ho
  rcases List.mem_append.1 hr with hr | hr
  ·obtain ⟨s,q1,q2⟩:=o2 r hr
   exact (q2 t ht).elim (fun e=>by subst e;cases ho) fun q=>(I.mem s q1).2.1 t q.1 ho
  ·obtain ⟨x,hx,rfl⟩:=hmem r hr
   obtain ⟨i,y,r',_,_,hr'⟩:=hget x hx
   exact hr'.own t ht ho
 ·intro b
  have q1:=htot b
  have q2:=I.once b
  omega
 ·intro b hb
  have q1:=htot b
  have q3:0<ba D b:=by
   have:=List.count_pos_iff.2 hb
   omega
  exact I.bnd b (by omega)
theorem BC {w w0:World} {X:List Nat}:∀ (ad:List DSl) (vs:List Value) (k:Nat),ad.length=vs.length →
  (∀ (i:Nat) (a:DSl) (y:Value),ad[i]?=some a→vs[i]?=some y→AOk w0 X a y)→((bB k ad).all fun p=>match p.2 with | .one=>true | _=>false)=true →
  OutsOk w ad vs ((bB k ad).map fun _=>(false,[.any]))∧ad.flatMap cd=[]
 | [],vs,k,_,_,_=>by
  refine ⟨?_,rfl⟩
  cases vs<;>exact rfl
 | a::as,[],k,hl,_,_=>by simp at hl
 | a::as,y::ys,k,hl,hA,hh=>by
  have ih:=BC (w:=w) (w0:=w0) (X:=X) as ys (k+1) (by simpa using hl) fun i a' y' h1 h2=>hA (i+1) a' y' (by simpa using h1) (by simpa using h2)
  unfold bB at hh ⊢
  cases hk:ck a with
  | none =>
   rw [hk] at hh
   obtain ⟨i1,i2⟩:=ih hh
   have hb:cd a=[]:=by cases a<;>first | rfl | cases hk
   refine ⟨?_,by rw [List.flatMap_cons,hb,List.nil_append];exact i2⟩
   unfold OutsOk;rw [hk];exact i1
  | some q =>
   rw [hk] at hh
   simp only [List.all_cons,Bool.and_eq_true] at hh
   obtain ⟨i1,i2⟩:=ih hh.2
   have hq:q = .one:=by
    have:=hh.1
    cases q<;>first | rfl | cases this
   subst hq
   obtain ⟨u,rfl⟩:=wd hk
   have v1:VT u y:=(hA 0 _ y rfl rfl).val []
   refine ⟨?_,by rw [List.flatMap_cons];exact i2⟩
   unfold OutsOk
   rw [hk]
   exact ⟨_,_,rfl,⟨⟨.any,rfl,v1.one⟩,rfl⟩,i1⟩
theorem Inv.endsV {P:Program} {tab:Tab} (ok:bn P tab) {D:DSt} {tm:Array Value} {w0 w:World} {X:List Nat} (I:Inv ⟨w0,X⟩ D [] tm w) {ad:List DSl} {vs:List Value} (hA:ArgsOk w0 X ad vs) {fn:Func} {all:cY}
  (e:tN mkD tab D (bB 0 ad) fn.results.toList=some all):∃ v od rd,all=od++rd∧(results fn tm).run P w = .ok v w∧OutsOk w ad vs od∧RetOk w0 X w (ad.flatMap cd) od rd v:=by
 unfold tN at e
 split at e
 case isFalse=>cases e
 rename_i hall
 rw [Option.map_eq_some_iff] at e
 obtain ⟨r,h1,rfl⟩:=e
 obtain ⟨v,od,rd,rfl,g1,g2,R⟩:=I.ends ok (ArgsOk.nil w0 X) (fun i a y h=>by simp at h) h1
 have:od=[]:=g2
 subst this
 obtain ⟨k1,k2⟩:=BC (w:=w) ad vs 0 hA.1 hA.2.1 hall
 refine ⟨v,_,rd,by rw [List.nil_append],g1,k1,?_⟩
 rw [k2]
 have hz:∀ (l:List (Nat×HK)),bh (l.map fun _=>((false,[T.any]):Bool×List DT))=[]:=by
  intro l
  unfold bh
  rw [List.flatMap_eq_nil_iff]
  intro r hr
  obtain ⟨_,_,rfl⟩:=List.mem_map.1 hr
  rfl
 have hr:∀ b,(bh ((bB 0 ad).map (fun _=>((false,[T.any]):Bool×List DT))++rd)).count b=(bh rd).count b:=by
  intro b
  rw [jX,hz,List.nil_append]
 have hm:∀ r∈(bB 0 ad).map (fun _=>((false,[T.any]):Bool×List DT))++rd,(∀ t∈r.2,t = .any)∨r∈[]++rd:=by
  intro r hr
  rcases List.mem_append.1 hr with hr | hr
  ·obtain ⟨_,_,rfl⟩:=List.mem_map.1 hr
   exact .inl fun t ht=>by simpa using ht
  ·exact .inr (by simpa using hr)
 refine ⟨R.val,fun r hr t ht => ?_,fun r hr t ht => ?_,fun r hr t ht ho => ?_,fun b => ?_,fun b hb => ?_⟩
 ·rcases hm r hr with q | q
  ·rw [q t ht];rfl
  ·exact R.fine r q t ht
 ·rcases hm r hr with q | q
  ·rw [q t ht];exact .any
  ·exact R.holds r q t ht
 ·rcases hm r hr with q | q
  ·rw [q t ht] at ho;cases ho
  ·exact R.own r q t ht ho
 ·rw [hr]
  have:=R.once b
  rw [List.nil_append] at this
  exact this
 ·refine R.new b ?_
  rw [List.nil_append]
  exact List.count_pos_iff.1 (by rw [← hr];exact List.count_pos_iff.2 hb)
end Go.Proofs.YtdcbjglpdbcjpaaGreatDoor.Am
namespace Go.Proofs.YtdcbjglpdbcjpaaGreatDoor.Am
set_option linter.unusedVariables false
set_option linter.unusedSimpArgs false
open Go
def IA (tab:Tab) (gv:Bool) (fn:Func) (hs:List (Nat×HK)):Exit→US→Option URes
 | .normal,D=>if gv=true then tN mkU tab D hs fn.results.toList else rL mkU tab D hs fn.results.toList
 | .ret,D=>if gv=true then tN mkU tab D hs fn.results.toList else rL mkU tab D hs fn.results.toList
 | _,_=>none
noncomputable def pk (tab:Tab) (fns:FuncId→Option Func) (hints:FuncId→gX) (orc:Sem1→Sem1):Nat→Sem1
 | 0=>fun _ _=>none
 | k+1=>fun f as =>
  match orc (pk tab fns hints orc k) f as with
  | some r=>some r
  | none =>
   match fns f with
   | some fn =>
    match fn.body with
    | some c=>if (tab.gv.contains f || Ic ((bB 0 as).map (·.1)) c)=true then ef tab fns (pk tab fns hints orc k) (hints f) k c (as++List.replicate (fn.ntmps-as.length) .any) (IA tab (tab.gv.contains f) fn (bB 0 as)) else none
    | none=>none
   | none=>none
theorem Inv.enter {w:World} {X:List Nat} {ad:List DSl} {vs:List Value} (h:ArgsOk w X ad vs) (n:Nat):Inv ⟨w,X⟩ (ad++List.replicate n .any) [] (vs.toArray++Array.replicate n undef) w:=by
 obtain ⟨hl,ha,hone⟩:=h
 have hget:∀ s∈ad++List.replicate n (.any:DSl),s = .any∨∃ (i:Nat) (y:Value),ad[i]?=some s∧vs[i]?=some y∧AOk w X s y:=by
  intro s hs
  rcases List.mem_append.1 hs with hs | hs
  ·right
   obtain ⟨i,hi⟩:=List.getElem?_of_mem hs
   have hlt:i<vs.length:=by
    rw [← hl];exact dC hi
   exact ⟨i,vs[i],hi,List.getElem?_eq_getElem hlt,ha i s _ hi (List.getElem?_eq_getElem hlt)⟩
  ·left;exact List.eq_of_mem_replicate hs
 have hown:∀ b,ba (ad++List.replicate n (.any:DSl)) b=(ad.flatMap ownBl).count b:=by
  intro b
  unfold ba
  rw [List.flatMap_append,List.count_append]
  have:(List.replicate n (.any:DSl)).flatMap ownBl=[]:=by
   rw [List.flatMap_eq_nil_iff]
   intro s hs
   rw [List.eq_of_mem_replicate hs];rfl
  rw [this];rfl
 refine ⟨by simp [hl],fun t s hs => ?_,fun s hs => ?_,fun s hs => ?_,fun p hp=>(by cases hp),fun b=>by rw [hown,b9];exact hone b,fun b hb => ?_,⟨rfl,rfl,rfl,Nat.le_refl _,fun b _=>rfl⟩⟩
 ·rcases Nat.lt_or_ge t ad.length with g | g
  ·rw [List.getElem?_append_left g] at hs
   have hlt:t<vs.length:=by omega
   have:=(ha t s vs[t] hs (List.getElem?_eq_getElem hlt)).val (ad++List.replicate n .any)
   have e:(vs.toArray++Array.replicate n undef).getD t undef=vs[t]:=by
    rw [Array.getD_eq_getD_getElem?,Array.getElem?_append_left (by simpa using hlt)]
    simp [hlt]
   rw [e];exact this
  ·rw [List.getElem?_append_right g] at hs
   have:=List.mem_of_getElem? hs
   rw [List.eq_of_mem_replicate this];trivial
 ·rcases hget s hs with rfl | ⟨i,y,_,_,h⟩
  ·exact ⟨fun u hu=>by simp [aj] at hu,fun u hu=>by simp [rootsO] at hu,trivial⟩
  ·exact h.mem
 ·rcases hget s hs with rfl | ⟨i,y,_,_,h⟩
  ·exact fun u hu=>by simp [aj] at hu
  ·exact h.kind _
 ·rw [hown,b9,Nat.add_zero] at hb
  obtain ⟨s,hs,hb⟩:=List.mem_flatMap.1 (List.count_pos_iff.1 hb)
  rcases hget s (List.mem_append.2 (.inl hs)) with rfl | ⟨i,y,_,_,h⟩
  ·simp [ownBl] at hb
  ·have:=h.own b hb
   exact ⟨.inr this.1,this.2⟩
theorem vu:∀ (ad:List DSl) (k i:Nat) (a:DSl),ad[i]?=some a→(ck a).isSome=true→k+i∈(bB k ad).map (·.1)
 | [],k,i,a,h,_=>by simp at h
 | a::as,k,0,a',h,hk=>by
  simp at h;subst h
  unfold bB
  cases hq:ck a with
  | none=>rw [hq] at hk;cases hk
  | some q=>simp
 | a::as,k,i+1,a',h,hk=>by
  have:=vu as (k+1) i a' (by simpa using h) hk
  unfold bB
  rw [show k+(i+1)=k+1+i by omega]
  cases hq:ck a with
  | none=>exact this
  | some q=>exact List.mem_cons_of_mem _ this
theorem sn {P:Program} {tab:Tab} (ok:bn P tab) {fns:FuncId→Option Func} (hf:lY P fns) (hints:FuncId→gX) {orc:Sem1→Sem1} {B:Base} (ho:∀ C,CallsOk P B C→CallsOk P B (orc C)):∀ k,CallsOk P B (pk tab fns hints orc k)
 | 0=>fun f as rs h=>by cases h
 | k+1=>fun f as rs h w X ad vs hB he hA=>by
  simp only [pk] at h
  split at h
  ·rename_i r hr
   cases h
   exact ho _ (sn ok hf hints ho k) f as _ hr w X ad vs hB he hA
  ·split at h
   case h_2=>cases h
   rename_i fn hfn
   split at h
   case h_2=>cases h
   rename_i c hc
   split at h
   case isFalse=>cases h
   rename_i hfix
   obtain ⟨p1,p2,p3⟩:=hf f fn hfn
   have hl:as.length=vs.length:=by rw [← he,List.length_map];exact hA.1
   have hh:bB 0 as=bB 0 ad:=by rw [← he,wX]
   have he':as++List.replicate (fn.ntmps-as.length) (.any:Sl Unit Unit)=erD (ad++List.replicate (fn.ntmps-vs.length) .any):=by
    rw [hl, ← he]
    simp [erD,Sl.er]
   rw [he',hh] at h
   rw [hh] at hfix
   refine calls_of_wp p1 hc ?_
   have I:=Inv.enter hA (fn.ntmps-vs.length)
   have hsz:vs.toArray.size=vs.length:=by simp
   have hT:∀ o∈oy c,∀ (a:Act) (y:Value),(a.defers=[]∧(tab.gv.contains f=false→∀ (i:Nat) (s:DSl) (v:Value),ad[i]?=some s→vs[i]?=some v→(ck s).isSome=true→a.tmps.getD i undef=v)) →
     ((a.put o.dst y).defers=[]∧(tab.gv.contains f=false→∀ (i:Nat) (s:DSl) (v:Value),ad[i]?=some s→vs[i]?=some v→(ck s).isSome=true→(a.put o.dst y).tmps.getD i undef=v)):=by
    rintro o ho a y ⟨t1,t2⟩
    refine ⟨by unfold Act.put;split<;>exact t1,fun hgv i s v q1 q2 q3 => ?_⟩
    rw [hgv,Bool.false_or] at hfix
    cases hd:o.dst with
    | none=>exact t2 hgv i s v q1 q2 q3
    | some t =>
     have hi:=vu ad 0 i s q1 q3
     rw [Nat.zero_add] at hi
     have hne:t≠i:=by
      rintro rfl
      unfold Ic at hfix
      rw [Bool.or_eq_true] at hfix
      rcases hfix with hfix | hfix
      ·rw [List.isEmpty_iff] at hfix
       rw [hfix] at hi;cases hi
      ·have:=List.all_eq_true.1 hfix o ho
       rw [hd] at this
       simp only [Bool.not_eq_true',List.contains_eq_mem,decide_eq_false_iff_not] at this
       exact this hi
     show (a.tmps.setIfInBounds t y).getD i undef=v
     rw [Array.getD_eq_getD_getElem?,Array.getElem?_setIfInBounds_ne hne, ← Array.getD_eq_getD_getElem?]
     exact t2 hgv i s v q1 q2 q3
   have hT0:∀ (i:Nat) (s:DSl) (v:Value),ad[i]?=some s→vs[i]?=some v→(ck s).isSome=true→(vs.toArray++Array.replicate (fn.ntmps-vs.toArray.size) undef).getD i undef=v:=by
    intro i s v _ q2 _
    have hlt:=dC q2
    rw [Array.getD_eq_getD_getElem?,Array.getElem?_append_left (by simpa using hlt)]
    simp [q2]
   refine iV (T:=fun a=>a.defers=[]∧(tab.gv.contains f=false→∀ (i:Nat) (s:DSl) (v:Value),ad[i]?=some s→vs[i]?=some v→(ck s).isSome=true→a.tmps.getD i undef=v)) (r:=rs) ok hf ⟨sn ok hf hints ho k,hB⟩ c hT (fun e D' a' w' h1 h2 h3 => ?_)
    (a:={ tmps:=vs.toArray++Array.replicate (fn.ntmps-vs.toArray.size) undef,defers:=[] }) (by rw [hsz];exact I) ⟨rfl,fun _=>hT0⟩ h
   have key:(if tab.gv.contains f=true then tN mkU tab (erD D') (bB 0 ad) fn.results.toList else rL mkU tab (erD D') (bB 0 ad) fn.results.toList)=some rs→a'.defers=[]∧∃ v,(Go.results fn a'.tmps).run P w' = .ok v w'∧∃ v' od rd,Ending.returned v = .returned v'∧GrewH X w w'∧erR (od++rd)=rs∧OutsOk w' ad vs od∧RetOk w X w' (ad.flatMap cd) od rd v':=by
    intro h1
    split at h1
    ·rw [IX] at h1
     obtain ⟨all,h1',rfl⟩:=Option.map_eq_some_iff.1 h1
     obtain ⟨v,od,rd,rfl,g1,g2,g3⟩:=h3.endsV ok hA h1'
     exact ⟨h2.1,v,g1,v,od,rd,rfl,⟨h3.frame.os,h3.frame.tape,h3.frame.output,h3.frame.size,fun b hb hn=>h3.frame.same b ⟨hb,hn⟩⟩,rfl,g2,g3⟩
    rename_i hgv
    rw [Bool.not_eq_true] at hgv
    rw [Et] at h1
    obtain ⟨all,h1',rfl⟩:=Option.map_eq_some_iff.1 h1
    obtain ⟨v,od,rd,rfl,g1,g2,g3⟩:=h3.ends ok hA (h2.2 hgv) h1'
    exact ⟨h2.1,v,g1,v,od,rd,rfl,⟨h3.frame.os,h3.frame.tape,h3.frame.output,h3.frame.size,fun b hb hn=>h3.frame.same b ⟨hb,hn⟩⟩,rfl,g2,g3⟩
   cases e with
   | normal=>exact key h1
   | ret=>exact key h1
   | _=>cases h1
end Go.Proofs.YtdcbjglpdbcjpaaGreatDoor.Am
