/- An abstract machine over trees, and that its steps are sound, a part. Conditions: none. -/
import Derived.Test.YtgaiiephdjllkaaGreatDoorAmb
import Derived.LoopN
namespace Go.Proofs.YtgaiiephdjllkaaGreatDoor.Am
set_option linter.unusedVariables false
set_option linter.unusedSimpArgs false
open Go
theorem Inv.stepM {P:Program} {tab:Tab} (ok:a8 P tab) {fns:FuncId→Option Func} (hf:gG P fns) {B:Base} {C:Sem1} {cx:Cx} (hC:fB P B C cx) {D:DSt} {a:Act} {w:World} (I:Inv cx D [] a.tmps w)
  {tk:Nat→Bool} {ops:Array Oper} {m:Nat} {anc:List (List Nat)} {j:Nat} {U:US} (hjm:j<m) (hr:∀ u∈fi tk ops m,∀ s∈erD D,c9 u s=false) (e:Am.stepM tab fns C tk ops m anc (erD D) j=some U) {K:Act→World→Prop} {Q:Exit→Act→World→Prop}
  (hK:∀ D' a' w',erD D'=U→(∃ o y,ops[j]?=some o∧a'=a.put o.dst y)→Inv cx D' [] a'.tmps w'→K a' w'):wpOp P ops Q j K a w:=by
 unfold Am.stepM at e
 split at e
 case h_2=>cases e
 rename_i t hbd
 rw [Option.bind_eq_some_iff] at hbd
 obtain ⟨o,ho,hd⟩:=hbd
 split at e
 case h_2=>cases e
 rename_i hany
 rw [Option.map_eq_some_iff] at e
 obtain ⟨s,e0,e2⟩:=e
 unfold evM at e0
 rw [ho] at e0
 simp only [hd] at e0
 rw [Option.bind_eq_some_iff] at e0
 obtain ⟨s',e1,e3⟩:=e0
 split at e3
 case isFalse=>cases e3
 rename_i hchk
 cases e3
 have ha:D[t]?=some .any:=by
  rw [bE,Option.map_eq_some_iff] at hany
  obtain ⟨s',h1,h2⟩:=hany
  rw [h1]
  cases s'<;>first | rfl | cases h2
 have htl:t<D.length:=by
  rcases Nat.lt_or_ge t D.length with g | g
  ·exact g
  ·rw [List.getElem?_eq_none g] at ha;cases ha
 split at e1
 ·rename_i htko
  have e2:(erD D).set t s=U:=by
   have:kW tk ops j (erD D)=erD D:=by unfold kW;rw [htko]
   rw [this] at e2;exact e2
  have go:Region.wanted o (yielded ops a.tmps)=true→Am.stepV tab fns C (Am.killAll (gm tk ops m anc j) (erD D)) o=some s→wpOp P ops Q j K a w:=by
   intro hw h
   unfold wpOp
   rw [ho]
   simp only
   rw [if_pos hw]
   exact .inl (I.stepV ok hf hC hd ha h fun D' a' w' h1 h2 h3=>hK D' a' w' (h1.trans e2) (h2.elim fun y h=>⟨o,y,ho,h⟩) h3)
  unfold zS at e1
  split at e1
  ·rename_i hg
   exact go (by simp [Region.wanted,hg]) e1
  ·rename_i g want hg
   split at e1
   case h_2=>cases e1
   rename_i b hb
   have hy:yielded ops a.tmps g=b:=by
    rw [Option.bind_eq_some_iff] at hb
    obtain ⟨t',h1,h2⟩:=hb
    rw [← ie,qK] at h2
    have:=(I.killAll (gm tk ops m anc j)).yieldAt h2
    unfold yielded
    rw [h1]
    exact this
   split at e1
   ·rename_i hbw
    exact go (by simp [Region.wanted,hg,hy,hbw]) e1
   ·rename_i hbw
    cases e1
    unfold wpOp
    rw [ho]
    simp only
    rw [if_neg (by simp [Region.wanted,hg,hy,hbw]),hd]
    have:=I.putUndef htl
    have hq:Am.putA D t (.tup [])=D.set t (.tup []):=by unfold Am.putA;rw [ha]
    rw [hq] at this
    exact hK _ _ _ ((eH D t (.tup [])).trans e2) ⟨o,undef,ho,by rw [hd]⟩ this
 ·rename_i u htko
  obtain ⟨hts,hg⟩:=GE ho htko
  have e2:((erD D).set u .any).set t s=U:=by
   have:kW tk ops j (erD D)=(erD D).set u .any:=by unfold kW;rw [htko]
   rw [this] at e2;exact e2
  have hut:u∈fi tk ops m:=List.mem_filterMap.2 ⟨j,List.mem_range.2 hjm,htko⟩
  have hs:c9 t s=false:=by
   have:=List.all_eq_true.1 hchk t (by simp)
   simpa using this
  unfold wpOp
  rw [ho]
  simp only
  rw [if_pos (by simp [Region.wanted,hg])]
  exact .inl (I.stepT ok hd ha hts (hr u hut) e1 hs fun D' a' w' h1 h2 h3=>hK D' a' w' (h1.trans e2) (h2.elim fun y h=>⟨o,y,ho,h⟩) h3)
def aH (l:Array Bool) (i:Nat):Prop:=l.getD i false=true
theorem eB {l:Array Bool} {i k:Nat}:aH (l.setIfInBounds i true) k↔(k=i∧i<l.size)∨aH l k:=by
 unfold aH
 rw [Array.getD_eq_getD_getElem?,Array.getD_eq_getD_getElem?,Array.getElem?_setIfInBounds]
 by_cases e:i=k
 ·subst e
  by_cases h:i<l.size
  ·simp [h]
  ·simp [h]
 ·rw [if_neg e]
  constructor
  ·exact fun h => .inr h
  ·rintro (⟨h,_⟩ | h)
   ·exact absurd h.symm e
   ·exact h
structure rR (tk:Nat→Bool) (ops:Array Oper) (m:Nat) (anc:List (List Nat)):Prop where
 le:m≤ops.size
 topo:∀ j i,i∈bz ops j→i<j
 dst:∀ j,j<m→∃ t,(ops[j]?).bind (·.dst)=some t
 nodup:(cp ops m).Nodup
 seq:∀ j,m≤j→j<ops.size→∀ i,i<j→i∈bz ops j∨∃ k∈bz ops j,i∈anc.getD k []
 tk1:∀ k,k<m→∀ u,tko tk ops k=some u→∃ i,i<m∧i∈anc.getD k []∧(ops[i]?).bind (·.dst)=some u
 tk2:∀ k k' u,k<m→k'<m→tko tk ops k=some u→tko tk ops k'=some u→k=k'
 anc:∀ j,j<ops.size→∀ i∈anc.getD j [],i∈bz ops j∨∃ k∈bz ops j,i∈anc.getD k []
theorem F3 {tk:Nat→Bool} {ops:Array Oper} {m:Nat} {anc:List (List Nat)} (h:yX tk ops m anc=true):rR tk ops m anc:=by
 unfold yX at h
 rw [Bool.and_eq_true] at h
 obtain ⟨h,h7⟩:=h
 simp only [Bool.and_eq_true,List.all_eq_true,List.mem_range,decide_eq_true_eq,Bool.or_eq_true,List.contains_iff_mem,List.any_eq_true] at h
 obtain ⟨⟨⟨⟨⟨h1,h2⟩,h3⟩,h4⟩,h5⟩,h6⟩:=h
 have hk:∀ k,k<m→∀ u,tko tk ops k=some u→((List.range m).any (fun i=>(anc.getD k []).contains i&&decide ((ops[i]?).bind (·.dst)=some u)) && !((jW tk ops m k).contains u))=true:=fun k hk u hu=>by
  have:=List.all_eq_true.1 h7 k (List.mem_range.2 hk)
  rw [hu] at this
  exact this
 refine ⟨h1,fun j i hi => ?_,fun j hj=>Option.isSome_iff_exists.1 (h3 j hj),h4,fun j hm hj i hi => ?_,fun k hkm u hu => ?_,fun k k' u hkm hkm' hu hu' => ?_,fun j hj i hi=>h5 j hj i hi⟩
 ·rcases Nat.lt_or_ge j ops.size with g | g
  ·exact h2 j g i hi
  ·unfold bz at hi
   rw [Array.getElem?_eq_none g] at hi
   cases hi
 ·rcases h6 j hj with g | g
  ·omega
  ·exact g i hi
 ·have:=hk k hkm u hu
  rw [Bool.and_eq_true,List.any_eq_true] at this
  obtain ⟨⟨i,hi,h8⟩,_⟩:=this
  rw [Bool.and_eq_true,List.contains_iff_mem,decide_eq_true_eq] at h8
  exact ⟨i,List.mem_range.1 hi,h8.1,h8.2⟩
 ·have:=hk k hkm u hu
  rw [Bool.and_eq_true] at this
  have h8:=this.2
  apply Classical.byContradiction
  intro hne
  have:u∈jW tk ops m k:=List.mem_filterMap.2 ⟨k',List.mem_range.2 hkm',by rw [if_neg (fun e=>hne e.symm)];exact hu'⟩
  rw [← List.contains_iff_mem] at this
  rw [this] at h8
  cases h8
theorem eK {ops:Array Oper} {l:Array Bool} {j:Nat} (hl:l.size=ops.size):j∈Region.ready .any ops l↔j<ops.size∧¬ aH l j∧∀ i∈bz ops j,aH l i:=by
 rw [mem_ready]
 unfold aH bz
 constructor
 ·rintro ⟨h1,o,h2,h3⟩
  have hj:j<ops.size:=(Array.getElem?_eq_some_iff.1 h2).1
  refine ⟨hj,?_,?_⟩
  ·rw [Array.getD_eq_getD_getElem?] at h1 ⊢
   rw [Array.getElem?_eq_getElem (hl ▸ hj)] at h1 ⊢
   simp at h1 ⊢
   exact h1
  ·rw [h2]
   intro i hi
   simp only [List.mem_map,List.mem_filter] at hi
   obtain ⟨e,⟨he,hb⟩,rfl⟩:=hi
   exact h3 e (by simpa using he) hb
 ·rintro ⟨hj,h1,h2⟩
  rw [Array.getElem?_eq_getElem hj] at h2
  refine ⟨?_,ops[j],Array.getElem?_eq_getElem hj,fun e he hb=>h2 e.on ?_⟩
  ·rw [Array.getD_eq_getD_getElem?] at h1 ⊢
   rw [Array.getElem?_eq_getElem (hl ▸ hj)] at h1 ⊢
   simp at h1 ⊢
   exact h1
  ·simp only [List.mem_map,List.mem_filter]
   exact ⟨e,⟨by simpa using he,hb⟩,rfl⟩
end Go.Proofs.YtgaiiephdjllkaaGreatDoor.Am
namespace Go.Proofs.YtgaiiephdjllkaaGreatDoor.Am
set_option linter.unusedVariables false
set_option linter.unusedSimpArgs false
open Go
theorem Cy {P:Program} {ops:Array Oper} {Q:Exit→Act→World→Prop} (htopo:∀ j i,i∈bz ops j→i<j) :
  ∀ (l:List Oper) (j:Nat) (listed:Array Bool) (a:Act) (w:World),listed.size=ops.size→(∀ i,l[i]?=ops[j+i]?)→(∀ i,i<ops.size→(aH listed i↔i<j)) →
   (∀ k,j≤k→k<ops.size→∀ i,i<k→i∈bz ops k∨∃ k1∈bz ops k,i<k1)→wpList P ops Q l a w→wpAny P .any ops Q l.length listed a w:=by
 intro l
 induction l with
 | nil =>
  intro j listed a w hs hl hL _ h
  have hj:ops.size≤j:=by
   have:=hl 0
   simp at this
   exact this
  refine ⟨?_,h⟩
  apply List.eq_nil_iff_forall_not_mem.2
  intro i hi
  rw [eK hs] at hi
  exact hi.2.1 ((hL i hi.1).2 (by omega))
 | cons o l ih =>
  intro j listed a w hs hl hL hseq h
  have h0:ops[j]?=some o:=by simpa using (hl 0).symm
  have hj:j<ops.size:=(Array.getElem?_eq_some_iff.1 h0).1
  have hready:∀ i,i∈Region.ready .any ops listed↔i=j:=by
   intro i
   rw [eK hs]
   constructor
   ·rintro ⟨h1,h2,h3⟩
    have h4:¬ i<j:=fun q=>h2 ((hL i h1).2 q)
    rcases Nat.lt_or_ge j i with g | g
    ·rcases hseq i (by omega) h1 j g with q | ⟨k1,q1,q2⟩
     ·exact absurd ((hL j hj).1 (h3 j q)) (Nat.lt_irrefl _)
     ·have q3:=htopo i k1 q1
      have:=(hL k1 (by omega)).1 (h3 k1 q1)
      omega
    ·omega
   ·rintro rfl
    exact ⟨hj,fun q=>Nat.lt_irrefl _ ((hL i hj).1 q),fun k hk=>(hL k (by have:=htopo i k hk;omega)).2 (htopo i k hk)⟩
  show _∧_
  refine ⟨fun q => ?_,fun i hi => ?_⟩
  ·have:=(hready j).2 rfl
   rw [q] at this;cases this
  ·rw [hready] at hi
   subst hi
   have key:∀ a w,wpList P ops Q l a w→wpAny P .any ops Q l.length (listed.setIfInBounds i true) a w:=fun a w h=>by
    refine ih (i+1) (listed.setIfInBounds i true) a w (by simp [hs]) (fun k=>by have:=hl (k+1);simpa [Nat.add_assoc,Nat.add_comm 1 k] using this) (fun k hk => ?_) (fun k hk=>hseq k (by omega)) h
    rw [eB,hL k hk]
    constructor
    ·rintro (⟨rfl,_⟩ | q)<;>omega
    ·intro q
     by_cases e:k=i
     ·exact .inl ⟨e,by omega⟩
     ·exact .inr (by omega)
   unfold wpOp
   rw [h0]
   simp only
   unfold wpList at h
   split
   ·rename_i hw
    rw [if_pos hw] at h
    exact h.imp (Oper.wp_mono key) id
   ·rename_i hw
    rw [if_neg hw] at h
    exact key _ _ h
section
variable {tab : Tab} {fns : FuncId → Option Func} {C : Sem1} {tk : Nat → Bool} {ops : Array Oper} {m : Nat} {anc : List (List Nat)}
structure Lex (tk:Nat→Bool) (ops:Array Oper) (m:Nat) (anc:List (List Nat)) (V0:US) (ts:Nat→Nat):Prop where
 dst:∀ j,j<m→∃ o,ops[j]?=some o∧o.dst=some (ts j)
 inj:∀ i j,i<m→j<m→ts i=ts j→i=j
 any:∀ j,j<m→V0[ts j]?=some .any
 tk1:∀ k,k<m→∀ u,tko tk ops k=some u→∃ i,i<m∧i∈anc.getD k []∧ts i=u
 tk2:∀ k k' u,k<m→k'<m→tko tk ops k=some u→tko tk ops k'=some u→k=k'
 lt:∀ j,j<m→∀ i∈anc.getD j [],i<j
structure Shows (tk:Nat→Bool) (ops:Array Oper) (m:Nat) (V0:US) (ts:Nat→Nat) (ss:Nat→Sl Unit Unit) (L:Nat→Prop) (U:US):Prop where
 len:U.length=V0.length
 on:∀ j,j<m→L j→(∀ k,k<m→L k→tko tk ops k≠some (ts j))→U[ts j]?=some (ss j)
 gone:∀ k,k<m→L k→∀ u,tko tk ops k=some u→U[u]?=some .any
 off:∀ u,(∀ j,j<m→L j→ts j≠u)→(∀ k,k<m→L k→tko tk ops k≠some u)→U[u]?=V0[u]?
variable {V0 : US} {ts : Nat → Nat} {ss : Nat → Sl Unit Unit} {L L' : Nat → Prop} {U U' : US}
theorem Shows.any (hx:Lex tk ops m anc V0 ts) (h:Shows tk ops m V0 ts ss L U) {j:Nat} (hj:j<m) (hn:¬ L j):U[ts j]?=some .any:=by
 by_cases e:∃ k,k<m∧L k∧tko tk ops k=some (ts j)
 ·obtain ⟨k,h1,h2,h3⟩:=e
  exact h.gone k h1 h2 _ h3
 ·rw [h.off (ts j) (fun k hk hL e=>hn (hx.inj k j hk hj e ▸ hL)) fun k hk hL q=>e ⟨k,hk,hL,q⟩]
  exact hx.any j hj
theorem Shows.set (hx:Lex tk ops m anc V0 ts) (h:Shows tk ops m V0 ts ss L U) {j:Nat} (hj:j<m) (hn:¬ L j) (hcl:∀ k,k<m→L k→∀ i∈anc.getD k [],i<m→L i):Shows tk ops m V0 ts ss (fun i=>i=j∨L i) ((kW tk ops j U).set (ts j) (ss j)):=by
 have hlt:ts j<U.length:=by
  have:=h.any hx hj hn
  rcases Nat.lt_or_ge (ts j) U.length with g | g
  ·exact g
  ·rw [List.getElem?_eq_none g] at this;cases this
 have hlo:(kW tk ops j U).length=U.length:=by
  unfold kW
  split
  ·rfl
  ·rw [List.length_set]
 have hget:∀ v,tko tk ops j≠some v→(kW tk ops j U)[v]?=U[v]?:=fun v hv=>by
  unfold kW
  split
  ·rfl
  ·rename_i u hu
   rw [List.getElem?_set_ne]
   intro e
   exact hv (e ▸ hu)
 refine ⟨by rw [List.length_set,hlo];exact h.len,fun k hk hL hnt => ?_,fun k hk hL u hu => ?_,fun u hu hnt => ?_⟩
 ·by_cases e:k=j
  ·subst e
   rw [List.getElem?_set_self (by rw [hlo];exact hlt)]
  ·rw [List.getElem?_set_ne (fun q=>e (hx.inj j k hj hk q).symm),hget _ (hnt j hj (.inl rfl))]
   exact h.on k hk (hL.resolve_left e) fun k' hk' hL'=>hnt k' hk' (.inr hL')
 ·obtain ⟨i,hi,hia,hts⟩:=hx.tk1 k hk u hu
  have hne:ts j≠u:=by
   intro q
   have hij:i=j:=hx.inj i j hi hj (hts.trans q.symm)
   subst hij
   rcases hL with rfl | hL
   ·exact Nat.lt_irrefl _ (hx.lt _ hk _ hia)
   ·exact hn (hcl k hk hL i hia hi)
  rw [List.getElem?_set_ne hne]
  by_cases e:tko tk ops j=some u
  ·have hul:u<U.length:=by
    have:=hx.any i hi
    rw [hts] at this
    rcases Nat.lt_or_ge u V0.length with g | g
    ·rw [h.len];exact g
    ·rw [List.getElem?_eq_none g] at this;cases this
   unfold kW
   rw [e]
   simp only
   rw [List.getElem?_set_self hul]
  ·rw [hget u e]
   rcases hL with rfl | hL
   ·exact absurd hu e
   ·exact h.gone k hk hL u hu
 ·rw [List.getElem?_set_ne (hu j hj (.inl rfl)),hget u (hnt j hj (.inl rfl))]
  exact h.off u (fun k hk hL=>hu k hk (.inr hL)) fun k hk hL=>hnt k hk (.inr hL)
theorem Shows.hide (hx:Lex tk ops m anc V0 ts) (h:Shows tk ops m V0 ts ss L U) (h':Shows tk ops m V0 ts ss L' U') {j:Nat} (hj:¬ L j) (hj':¬ L' j) (ha:∀ i∈anc.getD j [],i<m→L i∧L' i) :
  killAll (gm tk ops m anc j) U=killAll (gm tk ops m anc j) U':=by
 refine rx _ (h.len.trans h'.len.symm) fun u hu => ?_
 by_cases e:∃ i,i<m∧ts i=u
 ·obtain ⟨i,hi,rfl⟩:=e
  obtain ⟨o,ho,hd⟩:=hx.dst i hi
  have hin:((anc.getD j []).contains i && !((jW tk ops m j).contains (ts i)))=true:=by
   apply Classical.byContradiction
   intro q
   apply hu
   unfold gm
   rw [List.mem_filterMap]
   refine ⟨i,List.mem_range.2 hi,?_⟩
   rw [ho]
   simp only [Option.bind_some,hd]
   rw [if_neg q]
  rw [Bool.and_eq_true,List.contains_iff_mem] at hin
  obtain ⟨hm,hnt⟩:=hin
  have hno:∀ k,k<m→k≠j→tko tk ops k≠some (ts i):=fun k hk hkj q=>by
   have:ts i∈jW tk ops m j:=List.mem_filterMap.2 ⟨k,List.mem_range.2 hk,by rw [if_neg hkj];exact q⟩
   rw [← List.contains_iff_mem] at this
   rw [this] at hnt
   cases hnt
  obtain ⟨q1,q2⟩:=ha i hm hi
  rw [h.on i hi q1 fun k hk hL=>hno k hk fun e=>hj (e ▸ hL),h'.on i hi q2 fun k hk hL=>hno k hk fun e=>hj' (e ▸ hL)]
 ·have e':∀ i,i<m→ts i≠u:=fun i hi q=>e ⟨i,hi,q⟩
  have e2:∀ k,k<m→tko tk ops k≠some u:=fun k hk q=>by
   obtain ⟨i,hi,_,hts⟩:=hx.tk1 k hk u q
   exact e' i hi hts
  rw [h.off u (fun i hi _=>e' i hi) fun k hk _=>e2 k hk,h'.off u (fun i hi _=>e' i hi) fun k hk _=>e2 k hk]
theorem Shows.ext (hx:Lex tk ops m anc V0 ts) (h:Shows tk ops m V0 ts ss L U) (h':Shows tk ops m V0 ts ss L' U') (hL:∀ i,i<m→L i) (hL':∀ i,i<m→L' i):U=U':=by
 apply List.ext_getElem?
 intro u
 by_cases e2:∃ k,k<m∧tko tk ops k=some u
 ·obtain ⟨k,hk,hu⟩:=e2
  rw [h.gone k hk (hL k hk) u hu,h'.gone k hk (hL' k hk) u hu]
 ·have e2':∀ k,k<m→tko tk ops k≠some u:=fun k hk q=>e2 ⟨k,hk,q⟩
  by_cases e:∃ i,i<m∧ts i=u
  ·obtain ⟨i,hi,rfl⟩:=e
   rw [h.on i hi (hL i hi) fun k hk _=>e2' k hk,h'.on i hi (hL' i hi) fun k hk _=>e2' k hk]
  ·have e':∀ i,i<m→ts i≠u:=fun i hi q=>e ⟨i,hi,q⟩
   rw [h.off u (fun i hi _=>e' i hi) fun k hk _=>e2' k hk,h'.off u (fun i hi _=>e' i hi) fun k hk _=>e2' k hk]
theorem Shows.nr (hx:Lex tk ops m anc V0 ts) (h:Shows tk ops m V0 ts ss L U) (h0:∀ u∈fi tk ops m,∀ s∈V0,c9 u s=false) (hs:∀ i,i<m→∀ u∈fi tk ops m,c9 u (ss i)=false) :
  ∀ u∈fi tk ops m,∀ s∈U,c9 u s=false:=by
 intro u hu s hsU
 obtain ⟨v,hv⟩:=List.getElem?_of_mem hsU
 by_cases e2:∃ k,k<m∧L k∧tko tk ops k=some v
 ·obtain ⟨k,hk,hL,q⟩:=e2
  rw [h.gone k hk hL v q] at hv
  cases hv;rfl
 ·have e2':∀ k,k<m→L k→tko tk ops k≠some v:=fun k hk hL q=>e2 ⟨k,hk,hL,q⟩
  by_cases e:∃ i,i<m∧L i∧ts i=v
  ·obtain ⟨i,hi,hL,rfl⟩:=e
   rw [h.on i hi hL e2'] at hv
   cases hv
   exact hs i hi u hu
  ·rw [h.off v (fun i hi hL q=>e ⟨i,hi,hL,q⟩) e2'] at hv
   exact h0 u hu s (List.mem_of_getElem? hv)
theorem CC (hD:rR tk ops m anc):∀ j,j<ops.size→∀ i∈anc.getD j [],i<j:=by
 intro j
 induction j using Nat.strongRecOn with
 | ind j ih =>
  intro hj i hi
  rcases hD.anc j hj i hi with g | ⟨k,g1,g2⟩
  ·exact hD.topo j i g
  ·have:=hD.topo j k g1
   have:=ih k this (by omega) i g2
   omega
theorem Hr (hD:rR tk ops m anc):∀ j,j<m→∀ i∈anc.getD j [],i<j:=fun j hj=>CC hD j (by have:=hD.le;omega)
theorem qx (hD:rR tk ops m anc) {L:Nat→Prop} (hc:∀ k,L k→∀ i∈bz ops k,L i):∀ j,j<ops.size→(∀ i∈bz ops j,L i)→∀ i∈anc.getD j [],L i:=by
 intro j
 induction j using Nat.strongRecOn with
 | ind j ih =>
  intro hj ha i hi
  rcases hD.anc j hj i hi with g | ⟨k,g1,g2⟩
  ·exact ha i g
  ·have hk:=hD.topo j k g1
   exact ih k hk (by omega) (hc k (ha k g1)) i g2
theorem Shows.congr {ss':Nat→Sl Unit Unit} (h:Shows tk ops m V0 ts ss L U) (e:∀ i,i<m→L i→ss' i=ss i):Shows tk ops m V0 ts ss' L U :=
 ⟨h.len,fun i hi hL hn=>by rw [e i hi hL];exact h.on i hi hL hn,h.gone,h.off⟩
theorem Shows.imp (h:Shows tk ops m V0 ts ss L U) (e:∀ i,i<m→(L i↔L' i)):Shows tk ops m V0 ts ss L' U :=
 ⟨h.len,fun i hi hL hn=>h.on i hi ((e i hi).2 hL) fun k hk hLk=>hn k hk ((e k hk).1 hLk),fun k hk hL=>h.gone k hk ((e k hk).2 hL),fun u hu hn=>h.off u (fun i hi hL=>hu i hi ((e i hi).1 hL)) fun k hk hL=>hn k hk ((e k hk).1 hL)⟩
theorem vQ:∀ (n j:Nat) {ss:Nat→Sl Unit Unit} {V U:US},Lex tk ops m anc V0 ts→j+n=m→Shows tk ops m V0 ts ss (fun i=>i<j) V →
  ks tab fns C tk ops m anc n j V=some U→∃ ss',(∀ i,i<j→ss' i=ss i)∧Shows tk ops m V0 ts ss' (fun i=>i<m) U∧∀ i,j≤i→i<m→∃ Vi,Shows tk ops m V0 ts ss' (fun k=>k<i) Vi∧evM tab fns C tk ops m anc i Vi=some (ss' i)
 | 0,j,ss,V,U,hx,hj,hV,e=>by
  cases e
  have:j=m:=by omega
  subst this
  exact ⟨ss,fun i _=>rfl,hV,fun i h1 h2=>by omega⟩
 | n+1,j,ss,V,U,hx,hj,hV,e=>by
  have hjm:j<m:=by omega
  simp only [ks,Option.bind_eq_some_iff] at e
  obtain ⟨V1,e1,e2⟩:=e
  obtain ⟨o,ho,hd⟩:=hx.dst j hjm
  unfold stepM at e1
  rw [ho,Option.bind_some,hd] at e1
  simp only at e1
  rw [hV.any hx hjm (Nat.lt_irrefl j)] at e1
  simp only [Option.map_eq_some_iff] at e1
  obtain ⟨s,e3,rfl⟩:=e1
  let ss1:Nat→Sl Unit Unit:=fun i=>if i=j then s else ss i
  have e5:ss1 j=s:=by simp [ss1]
  have e6:∀ i,i<j→ss1 i=ss i:=fun i hi=>by
   have:i≠j:=by omega
   simp [ss1,this]
  have hV':Shows tk ops m V0 ts ss1 (fun i=>i<j) V:=hV.congr fun i _ hL=>e6 i hL
  have hset:=hV'.set hx hjm (Nat.lt_irrefl j) (fun k hk hL i hi _=>Nat.lt_trans (hx.lt k hk i hi) hL)
  rw [e5] at hset
  obtain ⟨ss',h1,h2,h3⟩:=vQ n (j+1) (ss:=ss1) (V:=(kW tk ops j V).set (ts j) s) hx (by omega) (hset.imp fun i _=>by constructor<;>intro q<;>omega) e2
  refine ⟨ss',fun i hi=>(h1 i (by omega)).trans (e6 i hi),h2,fun i hi hm => ?_⟩
  by_cases e:i=j
  ·subst e
   refine ⟨V,hV'.congr fun k _ hL=>h1 k (by omega),?_⟩
   rw [h1 i (by omega),e5]
   exact e3
  ·exact h3 i (by omega) hm
theorem E0 {j:Nat} (h:killAll (gm tk ops m anc j) U=killAll (gm tk ops m anc j) U'):evM tab fns C tk ops m anc j U=evM tab fns C tk ops m anc j U':=by
 unfold evM
 rw [h]
theorem Bj (hx:Lex tk ops m anc V0 ts) (hv:∀ i,i<m→∃ Vi,Shows tk ops m V0 ts ss (fun k=>k<i) Vi∧evM tab fns C tk ops m anc i Vi=some (ss i))
  (h:Shows tk ops m V0 ts ss L U) {j:Nat} (hj:j<m) (hn:¬ L j) (ha:∀ k∈anc.getD j [],L k):stepM tab fns C tk ops m anc U j=some ((kW tk ops j U).set (ts j) (ss j)):=by
 obtain ⟨o,ho,hd⟩:=hx.dst j hj
 obtain ⟨Vi,h1,h2⟩:=hv j hj
 unfold stepM
 rw [ho,Option.bind_some,hd]
 simp only
 rw [h.any hx hj hn]
 simp only
 rw [E0 (h.hide hx h1 hn (Nat.lt_irrefl j) (fun i hi _=>⟨ha i hi,hx.lt j hj i hi⟩)),h2]
 rfl
theorem zL {j:Nat} {s:Sl Unit Unit} (h:evM tab fns C tk ops m anc j U=some s):∀ u∈fi tk ops m,c9 u s=false:=by
 unfold evM at h
 split at h
 case h_2=>cases h
 split at h
 case h_2=>cases h
 rename_i o ho t hd
 rw [Option.bind_eq_some_iff] at h
 obtain ⟨s',_,h2⟩:=h
 split at h2
 case isFalse=>cases h2
 rename_i hc
 cases h2
 intro u hu
 have:=List.all_eq_true.1 hc u (List.mem_cons_of_mem _ hu)
 simpa using this
end
theorem sv {l:Array Bool} {rem:List Nat} {n j:Nat} (hs:l.size=n) (hnd:rem.Nodup) (hr:∀ i,i∈rem↔i<n∧¬ aH l i) (hj:j∈rem) :
  (rem.erase j).Nodup∧(∀ i,i∈rem.erase j↔i<n∧¬ aH (l.setIfInBounds j true) i)∧(rem.erase j).length+1=rem.length:=by
 refine ⟨hnd.erase j,fun i => ?_,?_⟩
 ·rw [hnd.mem_erase_iff,hr i,eB]
  have:=(hr j).1 hj
  constructor
  ·rintro ⟨h1,h2,h3⟩
   exact ⟨h2,fun q=>q.elim (fun g=>h1 g.1) h3⟩
  ·rintro ⟨h1,h2⟩
   exact ⟨fun e=>h2 (.inl ⟨e,by omega⟩),h1,fun q=>h2 (.inr q)⟩
 ·have:=List.length_erase_of_mem hj
  have:=List.length_pos_of_mem hj
  omega
theorem FQ {P:Program} {tab:Tab} (ok:a8 P tab) {fns:FuncId→Option Func} (hf:gG P fns) {B:Base} {C:Sem1} {cx:Cx} (hC:fB P B C cx) {ops:Array Oper} {m:Nat} {anc:List (List Nat)} {Q:Exit→Act→World→Prop}
  {tk:Nat→Bool} (hD:rR tk ops m anc) {V0:US} {ts:Nat→Nat} {ss:Nat→Sl Unit Unit} (hx:Lex tk ops m anc V0 ts) (hv:∀ i,i<m→∃ Vi,Shows tk ops m V0 ts ss (fun k=>k<i) Vi∧evM tab fns C tk ops m anc i Vi=some (ss i))
  (h0:∀ u∈fi tk ops m,∀ s∈V0,c9 u s=false) {Vm:US} (hVm:Shows tk ops m V0 ts ss (fun i=>i<m) Vm) {T:Act→Prop} (hT:∀ o∈ops.toList,∀ a y,T a→T (a.put o.dst y)) (hQ:∀ D a w,Inv cx D [] a.tmps w→T a→erD D=Vm→wpList P ops Q (ops.toList.drop m) a w) :
  ∀ (n:Nat) (rem:List Nat) (listed:Array Bool) (D:DSt) (a:Act) (w:World),rem.length=n→listed.size=ops.size→rem.Nodup→(∀ i,i∈rem↔i<ops.size∧¬ aH listed i) →
   (∀ i,m≤i→i<ops.size→¬ aH listed i)→(∀ k,aH listed k→∀ i∈bz ops k,aH listed i)→Inv cx D [] a.tmps w→T a→Shows tk ops m V0 ts ss (aH listed) (erD D)→wpAny P .any ops Q n listed a w:=by
 intro n
 have tail:∀ (rem:List Nat) (listed:Array Bool) (D:DSt) (a:Act) (w:World),listed.size=ops.size→rem.Nodup→(∀ i,i∈rem↔i<ops.size∧¬ aH listed i) →
   (∀ i,m≤i→i<ops.size→¬ aH listed i)→(∀ i,i<m→aH listed i)→Inv cx D [] a.tmps w→T a→Shows tk ops m V0 ts ss (aH listed) (erD D)→wpAny P .any ops Q rem.length listed a w:=by
  intro rem listed D a w hs hnd hr hge hall I hd hS
  have hlen:(ops.toList.drop m).length=rem.length:=by
   have h1:rem.Perm ((List.range ops.size).drop m):=by
    refine (List.perm_ext_iff_of_nodup hnd (List.nodup_range.sublist (List.drop_sublist _ _))).2 fun i => ?_
    rw [hr i,List.mem_iff_getElem?]
    constructor
    ·rintro ⟨q1,q2⟩
     have:m≤i:=by
      rcases Nat.lt_or_ge i m with g | g
      ·exact absurd (hall i g) q2
      ·exact g
     exact ⟨i-m,by rw [List.getElem?_drop,List.getElem?_range (by omega)];congr 1;omega⟩
    ·rintro ⟨k,hk⟩
     rw [List.getElem?_drop] at hk
     have hlt:m+k<ops.size:=by
      rcases Nat.lt_or_ge (m+k) ops.size with g | g
      ·exact g
      ·rw [List.getElem?_eq_none (by simpa using g)] at hk;cases hk
     rw [List.getElem?_range hlt] at hk
     cases hk
     exact ⟨hlt,hge _ (by omega) hlt⟩
   have:=h1.length_eq
   simp at this ⊢
   omega
  rw [← hlen]
  have hE:erD D=Vm:=hS.ext hx hVm hall (fun i hi=>hi)
  refine Cy (hD.topo) (ops.toList.drop m) m listed a w hs (fun i=>by rw [List.getElem?_drop];simp) (fun i hi => ?_) (fun k h1 h2 i hi=>(hD.seq k h1 h2 i hi).imp id fun ⟨k1,q1,q2⟩=>⟨k1,q1,CC hD k1 (by have:=hD.topo k k1 q1;omega) i q2⟩) (hQ D a w I hd hE)
  constructor
  ·intro q
   rcases Nat.lt_or_ge i m with g | g
   ·exact g
   ·exact absurd q (hge i g hi)
  ·exact hall i
 induction n with
 | zero =>
  intro rem listed D a w hn hs hnd hr hge hc I hd hS
  have he:rem=[]:=List.length_eq_zero_iff.1 hn
  have:=tail rem listed D a w hs hnd hr hge (fun i hi=>by
   by_cases q:aH listed i
   ·exact q
   ·have:=(hr i).2 ⟨by have:=hD.le;omega,q⟩
    rw [he] at this;cases this) I hd hS
  rw [he] at this
  exact this
 | succ n ih =>
  intro rem listed D a w hn hs hnd hr hge hc I hd hS
  by_cases hall:∀ i,i<m→aH listed i
  ·have:=tail rem listed D a w hs hnd hr hge hall I hd hS
   rw [hn] at this
   exact this
  ·have hsome:∃ j,j<m∧¬ aH listed j∧∀ i,i<j→aH listed i:=by
    have hex:∃ j,j<m∧¬ aH listed j:=by
     apply Classical.byContradiction
     intro q
     exact hall fun i hi=>Classical.byContradiction fun q'=>q ⟨i,hi,q'⟩
    obtain ⟨j,h1,h2⟩:=hex
    induction j using Nat.strongRecOn with
    | ind j ihj =>
     by_cases q:∀ i,i<j→aH listed i
     ·exact ⟨j,h1,h2,q⟩
     ·have:∃ i,i<j∧¬ aH listed i:=Classical.byContradiction fun q'=>q fun i hi=>Classical.byContradiction fun q''=>q' ⟨i,hi,q''⟩
      obtain ⟨i,hi,hni⟩:=this
      exact ihj i hi (by omega) hni
   obtain ⟨j0,h1,h2,h3⟩:=hsome
   show _∧_
   refine ⟨fun q => ?_,fun j hj => ?_⟩
   ·have:j0∈Region.ready .any ops listed:=(eK hs).2 ⟨by have:=hD.le;omega,h2,fun i hi=>h3 i (hD.topo j0 i hi)⟩
    rw [q] at this;cases this
   ·obtain ⟨r1,r2,r3⟩:=(eK hs).1 hj
    have hjm:j<m:=by
     rcases Nat.lt_or_ge j m with g | g
     ·exact g
     ·rcases hD.seq j g r1 j0 (by omega) with q | ⟨k1,q1,q2⟩
      ·exact absurd (r3 j0 q) h2
      ·exact absurd (qx hD (fun k hk i hi=>hc k hk i hi) k1 (by have:=hD.topo j k1 q1;omega) (fun i hi=>hc k1 (r3 k1 q1) i hi) j0 q2) h2
    have hanc:∀ k∈anc.getD j [],aH listed k:=qx hD (fun k hk i hi=>hc k hk i hi) j r1 r3
    have hst:=Bj hx hv hS hjm r2 hanc
    have hnr:=hS.nr hx h0 (fun i hi=>by obtain ⟨Vi,_,q⟩:=hv i hi;exact zL q)
    refine I.stepM ok hf hC hjm hnr hst fun D' a' w' e1 e2 e3 => ?_
    have hjr:j∈rem:=(hr j).2 ⟨r1,r2⟩
    obtain ⟨k1,k2,k3⟩:=sv hs hnd hr hjr
    refine ih (rem.erase j) (listed.setIfInBounds j true) D' a' w' (by omega) (by simp [hs]) k1 k2 (fun i h4 h5 q => ?_) (fun k hk i hi => ?_) e3 (by
     obtain ⟨o,y,q1,rfl⟩:=e2
     exact hT o (List.mem_of_getElem? (by simpa using q1)) a y hd) ?_
    ·rw [eB] at q
     rcases q with ⟨q,_⟩ | q
     ·omega
     ·exact hge i h4 h5 q
    ·rw [eB] at hk ⊢
     rcases hk with ⟨rfl,_⟩ | hk
     ·exact .inr (r3 i hi)
     ·exact .inr (hc k hk i hi)
    ·rw [e1]
     refine (hS.set hx hjm r2 (fun k hk hL i hi _=>qx hD (fun k hk i hi=>hc k hk i hi) k (by have:=hD.le;omega) (fun i hi=>hc k hL i hi) i hi)).imp fun i _ => ?_
     rw [eB]
     constructor
     ·rintro (q | q)
      ·exact .inl ⟨q,by omega⟩
      ·exact .inr q
     ·rintro (⟨q,_⟩ | q)
      ·exact .inl q
      ·exact .inr q
theorem dC {n i:Nat}:¬ aH (Array.replicate n false) i:=by
 intro q
 unfold aH at q
 rw [Array.getD_eq_getD_getElem?,Array.getElem?_replicate] at q
 split at q<;>cases q
theorem mW {α β:Type} {f:α→Option β} {g:α→β}:∀ {l:List α},(∀ i∈l,f i=some (g i))→l.filterMap f=l.map g
 | [],_=>rfl
 | a::l,h=>by
  rw [List.filterMap_cons,h a (by simp),List.map_cons,mW fun i hi=>h i (by simp [hi])]
theorem Inv.runD {P:Program} {tab:Tab} (ok:a8 P tab) (hm:P.follows .mixedOrders=true) {fns:FuncId→Option Func} (hf:gG P fns) {B:Base} {C:Sem1} {cx:Cx} (hC:fB P B C cx) {tk:Nat→Bool} {ops:Array Oper} {m:Nat} {anc:List (List Nat)}
  {Q:Exit→Act→World→Prop}  {U:US} {T:Act→Prop} (hT:∀ o∈ops.toList,∀ a y,T a→T (a.put o.dst y)) (hQ:∀ D' a' w',erD D'=U→T a'→Inv cx D' [] a'.tmps w'→Q .normal a' w') {id:Nat} {D:DSt} {a:Act} {w:World} (I:Inv cx D [] a.tmps w) (hd:T a)
  (e:Am.runD tab fns C tk ops m anc (erD D)=some U):(Code.region id ops true).wp P Q a w:=by
 unfold Am.runD at e
 split at e
 case isFalse=>cases e
 rename_i hB
 rw [Bool.and_eq_true,Bool.and_eq_true] at hB
 obtain ⟨⟨hB,hlen⟩,hV0⟩:=hB
 have hD:=F3 hB
 rw [Option.bind_eq_some_iff] at e
 obtain ⟨Vm,e1,e2⟩:=e
 rw [← ie] at e1 hV0
 have I0:=(I.drewn).killAll (cp ops m)
 generalize hD0:Am.killAll (cp ops m) D=D0 at e1 I0 hV0
 have hts:∃ ts:Nat→Nat,∀ j,j<m→(ops[j]?).bind (·.dst)=some (ts j):=by
  refine ⟨fun j=>((ops[j]?).bind (·.dst)).getD 0,fun j hj => ?_⟩
  obtain ⟨t,ht⟩:=hD.dst j hj
  simp [ht]
 obtain ⟨ts,hts⟩:=hts
 have hget:∀ j,j<m→∃ o,ops[j]?=some o∧o.dst=some (ts j):=fun j hj=>by
  have:=hts j hj
  rw [Option.bind_eq_some_iff] at this
  exact this
 have hinj:∀ i j,i<m→j<m→ts i=ts j→i=j:=by
  have hdst:cp ops m=(List.range m).map ts:=by
   unfold cp
   exact mW fun i hi=>hts i (List.mem_range.1 hi)
  have hnd:=hD.nodup
  rw [hdst] at hnd
  intro i j hi hj h
  have:=(List.pairwise_map.1 hnd)
  rcases Nat.lt_trichotomy i j with g | g | g
  ·exact absurd h (List.pairwise_iff_getElem.1 this i j (by simpa using hi) (by simpa using hj) g |> fun q=>by simpa using q)
  ·exact g
  ·exact absurd h.symm (List.pairwise_iff_getElem.1 this j i (by simpa using hj) (by simpa using hi) g |> fun q=>by simpa using q)
 have hmem:∀ j,j<m→ts j∈cp ops m:=fun j hj=>List.mem_filterMap.2 ⟨j,List.mem_range.2 hj,hts j hj⟩
 have hx:Lex tk ops m anc (erD D0) ts:=⟨hget,hinj,fun j hj=>by
  rw [← hD0,ie]
  refine pn _ ?_ (.inl (hmem j hj))
  simpa using List.all_eq_true.1 hlen _ (hmem j hj),fun k hk u hu=>by
   obtain ⟨i,hi,hia,hd'⟩:=hD.tk1 k hk u hu
   rw [hts i hi] at hd'
   exact ⟨i,hi,hia,by cases hd';rfl⟩,hD.tk2,Hr hD⟩
 have h0:Shows tk ops m (erD D0) ts (fun _ => .any) (fun i=>i<0) (erD D0):=⟨rfl,fun j _ q=>by omega,fun j _ q=>by omega,fun u _ _=>rfl⟩
 obtain ⟨ss,_,k2,k3⟩:=vQ m 0 hx (by omega) h0 e1
 have hnr0:∀ u∈fi tk ops m,∀ s∈erD D0,c9 u s=false:=fun u hu s hs=>by
  have:=List.all_eq_true.1 (List.all_eq_true.1 hV0 s hs) u hu
  simpa using this
 refine wp_region_any hm ?_
 refine FQ ok hf hC hD hx (fun i hi=>k3 i (Nat.zero_le i) hi) hnr0 k2 (T:=T) hT (fun D' a' w' q1 q2 q3 => ?_) ops.size (List.range ops.size) _ D0 a _ (by simp) (by simp) List.nodup_range (fun i => ?_) (fun i h1 h2 q => ?_) (fun k hk => ?_) I0 hd ?_
 ·exact Inv.runOps (tk:=tk) ok hf hC hQ _ m (fun o ho=>hT o (List.mem_of_mem_drop ho)) q1 q2 (by rw [q3];exact e2)
 ·rw [List.mem_range]
  constructor
  ·intro q
   exact ⟨q,dC⟩
  ·exact fun q=>q.1
 ·exact dC q
 ·exact absurd hk dC
 ·exact ⟨rfl,fun j hj q=>absurd q dC,fun k hk q=>absurd q dC,fun u _ _=>rfl⟩
end Go.Proofs.YtgaiiephdjllkaaGreatDoor.Am
namespace Go.Proofs.YtgaiiephdjllkaaGreatDoor.Am
set_option linter.unusedVariables false
set_option linter.unusedSimpArgs false
open Go
def py (σ:List Nat) (o:Oper):Oper:={ o with after:=o.after.map fun e=>{ e with on:=σ.idxOf e.on },guard:=o.guard.map fun g=>(σ.idxOf g.1,g.2) }
def cn (σ:List Nat) (ops:Array Oper):Array Oper:=((σ.filterMap fun j=>ops[j]?).map (py σ)).toArray
def y6 (σ:List Nat) (n:Nat):Bool:=decide σ.Nodup&&σ.all (fun j=>decide (j<n))&&(List.range n).all (fun j=>σ.contains j)
structure PermOk (σ:List Nat) (n:Nat):Prop where
 nodup:σ.Nodup
 lt:∀ j∈σ,j<n
 mem:∀ j,j<n→j∈σ
theorem Gv {σ:List Nat} {n:Nat} (h:y6 σ n=true):PermOk σ n:=by
 unfold y6 at h
 simp only [Bool.and_eq_true,decide_eq_true_eq,List.all_eq_true,List.mem_range,List.contains_iff_mem] at h
 exact ⟨h.1.1,h.1.2,h.2⟩
section
variable {σ : List Nat} {ops : Array Oper}
theorem vX (h : ∀ j ∈ σ, j < ops.size) : cn σ ops = ((σ.map fun j => py σ (ops[j]?.getD ⟨none, .alloc 0, 0, "", #[], none⟩))).toArray := by
 unfold cn
 congr 1
 have : ∀ l : List Nat, (∀ j ∈ l, j < ops.size) → (l.filterMap fun j => ops[j]?).map (py σ) = l.map fun j => py σ (ops[j]?.getD ⟨none, .alloc 0, 0, "", #[], none⟩) := by
  intro l hl
  induction l with
  | nil=>rfl
  | cons j l ih =>
   have hj:=Array.getElem?_eq_getElem (hl j (by simp))
   rw [List.filterMap_cons,hj]
   simp only [List.map_cons,hj,Option.getD_some]
   rw [ih fun k hk=>hl k (by simp [hk])]
 exact this σ h
theorem PermOk.len {n:Nat} (h:PermOk σ n):σ.length=n:=by
 have h1:σ.Perm (List.range n):=(List.perm_ext_iff_of_nodup h.nodup List.nodup_range).2 fun j=>by
  rw [List.mem_range]
  exact ⟨h.lt j,h.mem j⟩
 rw [h1.length_eq,List.length_range]
theorem s8 (h:PermOk σ ops.size) (j:Nat):(cn σ ops)[σ.idxOf j]?=(ops[j]?).map (py σ):=by
 rw [vX h.lt]
 rcases Nat.lt_or_ge j ops.size with g | g
 ·have hm:=h.mem j g
  have hi:σ.idxOf j<σ.length:=List.idxOf_lt_length_iff.2 hm
  rw [Array.getElem?_eq_getElem g]
  simp [List.getElem?_map,List.getElem?_eq_getElem hi,List.getElem_idxOf hi,Array.getElem?_eq_getElem g]
 ·have hm:j∉σ:=fun q=>by have:=h.lt j q;omega
  rw [Array.getElem?_eq_none g,List.idxOf_eq_length hm]
  simp [h.len]
theorem vY (h:PermOk σ ops.size):(cn σ ops).size=ops.size:=by
 rw [vX h.lt]
 simp [h.len]
theorem Fu (h:PermOk σ ops.size) (j:Nat):bz (cn σ ops) (σ.idxOf j)=(bz ops j).map (σ.idxOf ·):=by
 unfold bz
 rw [s8 h]
 cases ops[j]? with
 | none=>rfl
 | some o =>
  simp only [Option.map_some,py,Array.toList_map,List.map_map,List.filter_map]
  congr 1
theorem Ch (h:PermOk σ ops.size) (tm:Array Value) (j:Nat):yielded (cn σ ops) tm (σ.idxOf j)=yielded ops tm j:=by
 unfold yielded
 rw [s8 h]
 cases ops[j]? with
 | none=>rfl
 | some o=>rfl
theorem AI (h:PermOk σ ops.size) (tm:Array Value) (o:Oper):Region.wanted (py σ o) (yielded (cn σ ops) tm)=Region.wanted o (yielded ops tm):=by
 unfold Region.wanted py
 cases o.guard with
 | none=>rfl
 | some g =>
  obtain ⟨g,want⟩:=g
  simp only [Option.map_some]
  rw [Ch h]
theorem Hj {P:Program} {o:Oper} {a:Act} {w:World} {K:Act→World→Prop} {Q:Exit→Act→World→Prop}:(py σ o).wp P a w K Q=o.wp P a w K Q:=rfl
theorem Fz {P:Program} {o:Oper} {a:Act} {w:World}:(py σ o).asks P a w=o.asks P a w:=rfl
theorem Eo {P:Program} {Q:Exit→Act→World→Prop} (h:PermOk σ ops.size):∀ (k:Nat) (listed listed':Array Bool) (a:Act) (w:World),listed.size=ops.size→listed'.size=ops.size→(∀ j,aH listed j↔aH listed' (σ.idxOf j)) →
  wpAny P .any (cn σ ops) Q k listed' a w→wpAny P .any ops Q k listed a w:=by
 have hz:=vY h
 have hr:∀ {listed listed':Array Bool},listed.size=ops.size→listed'.size=ops.size→(∀ j,aH listed j↔aH listed' (σ.idxOf j))→∀ j,j∈Region.ready .any ops listed↔(j<ops.size∧σ.idxOf j∈Region.ready .any (cn σ ops) listed'):=by
  intro listed listed' hs hs' hL j
  rw [eK hs,eK (by rw [hs',hz]),hz,Fu h]
  constructor
  ·rintro ⟨h1,h2,h3⟩
   have hi:σ.idxOf j<ops.size:=by rw [← h.len];exact List.idxOf_lt_length_iff.2 (h.mem j h1)
   refine ⟨h1,hi,fun q=>h2 ((hL j).2 q),fun i hi => ?_⟩
   obtain ⟨i',hi',rfl⟩:=List.mem_map.1 hi
   exact (hL i').1 (h3 i' hi')
  ·rintro ⟨h1,_,h2,h3⟩
   exact ⟨h1,fun q=>h2 ((hL j).1 q),fun i hi=>(hL i).2 (h3 _ (List.mem_map_of_mem hi))⟩
 have hnil:∀ {listed listed':Array Bool},listed.size=ops.size→listed'.size=ops.size→(∀ j,aH listed j↔aH listed' (σ.idxOf j))→(Region.ready .any ops listed=[]↔Region.ready .any (cn σ ops) listed'=[]):=by
  intro listed listed' hs hs' hL
  rw [List.eq_nil_iff_forall_not_mem,List.eq_nil_iff_forall_not_mem]
  constructor
  ·intro q p hp
   have hp1:=((eK (by rw [hs',hz])).1 hp).1
   rw [hz, ← h.len] at hp1
   have e:σ.idxOf σ[p]=p:=h.nodup.idxOf_getElem p hp1
   exact q σ[p] ((hr hs hs' hL _).2 ⟨h.lt _ (List.getElem_mem _),by rw [e];exact hp⟩)
  ·exact fun q j hj=>q _ ((hr hs hs' hL j).1 hj).2
 intro k
 induction k with
 | zero =>
  intro listed listed' a w hs hs' hL hw
  exact ⟨(hnil hs hs' hL).2 hw.1,hw.2⟩
 | succ k ih =>
  intro listed listed' a w hs hs' hL hw
  refine ⟨fun q=>hw.1 ((hnil hs hs' hL).1 q),fun j hj => ?_⟩
  obtain ⟨hj1,hj2⟩:=(hr hs hs' hL j).1 hj
  have h2:=hw.2 _ hj2
  have key:∀ a w,wpAny P .any (cn σ ops) Q k (listed'.setIfInBounds (σ.idxOf j) true) a w→wpAny P .any ops Q k (listed.setIfInBounds j true) a w:=fun a w=>by
   refine ih _ _ a w (by simp [hs]) (by simp [hs']) fun i => ?_
   rw [eB,eB,hL i,hs,hs']
   have hi:σ.idxOf j<ops.size:=by rw [← h.len];exact List.idxOf_lt_length_iff.2 (h.mem j hj1)
   constructor
   ·rintro (⟨rfl,_⟩ | q)
    ·exact .inl ⟨rfl,hi⟩
    ·exact .inr q
   ·rintro (⟨e,_⟩ | q)
    ·refine .inl ⟨?_,hj1⟩
     have hjm:=h.mem j hj1
     have him:i∈σ:=by
      apply Classical.byContradiction
      intro q
      rw [List.idxOf_eq_length q,h.len] at e
      omega
     have e1:=List.getElem_idxOf (List.idxOf_lt_length_iff.2 him)
     have e2:=List.getElem_idxOf (List.idxOf_lt_length_iff.2 hjm)
     simp only [e] at e1
     exact e1.symm.trans e2
    ·exact .inr q
  unfold wpOp at h2 ⊢
  rw [s8 h] at h2
  cases ho:ops[j]? with
  | none=>rw [ho] at h2;exact key _ _ h2
  | some o =>
   rw [ho] at h2
   simp only [Option.map_some,AI h] at h2 ⊢
   split
   ·rename_i hq
    rw [if_pos hq,Hj,Fz] at h2
    exact h2.imp (Oper.wp_mono key) id
   ·rename_i hq
    rw [if_neg hq] at h2
    exact key _ _ h2
end
end Go.Proofs.YtgaiiephdjllkaaGreatDoor.Am
namespace Go.Proofs.YtgaiiephdjllkaaGreatDoor.Am
set_option linter.unusedVariables false
set_option linter.unusedSimpArgs false
open Go
def stepE (tab:Tab) (fns:FuncId→Option Func) (C:Sem1) (tk:Nat→Bool) (ops:Array Oper) (j:Nat) (D:US):Option US :=
 (ops[j]?).bind fun o=>runOps tab fns C tk ops [o] j D
def oo (tab:Tab) (fns:FuncId→Option Func) (C:Sem1) (tk:Nat→Bool) (ops:Array Oper):Nat→List Nat→US→List (Option US)
 | 0,rem,D=>match rem with | []=>[some D] | _=>[none]
 | n+1,rem,D =>
  match rem.filter (fun j=>(bz ops j).all fun i => !rem.contains i) with
  | []=>[none]
  | j::js=>(j::js).flatMap fun j=>match stepE tab fns C tk ops j D with
   | some D'=>oo tab fns C tk ops n (rem.erase j) D'
   | none=>[none]
def bN {α:Type}:List (Option α)→α→Prop
 | [],_=>True
 | x::r,U=>x=some U∧bN r U
theorem r6 {α:Type} {U:α}:∀ {l:List (Option α)},bN l U→∀ x∈l,x=some U
 | [],_,x,hx=>by cases hx
 | y::l,h,x,hx=>by
  rcases List.mem_cons.1 hx with rfl | hx
  ·exact h.1
  ·exact r6 h.2 x hx
theorem Inv.stepE {P:Program} {tab:Tab} (ok:a8 P tab) {fns:FuncId→Option Func} (hf:gG P fns) {B:Base} {C:Sem1} {cx:Cx} (hC:fB P B C cx) {tk:Nat→Bool} {ops:Array Oper} {Q:Exit→Act→World→Prop} {j:Nat} {D:DSt} {a:Act} {w:World}
  (I:Inv cx D [] a.tmps w) {U:US} (e:Am.stepE tab fns C tk ops j (erD D)=some U) {K:Act→World→Prop} (hK:∀ D' a' w',erD D'=U→(∃ o y,ops[j]?=some o∧a'=a.put o.dst y)→Inv cx D' [] a'.tmps w'→K a' w'):wpOp P ops Q j K a w:=by
 unfold Am.stepE at e
 rw [Option.bind_eq_some_iff] at e
 obtain ⟨o,ho,e⟩:=e
 have h1:∀ {x:Option US},(x.bind (Am.runOps tab fns C tk ops [] (j+1)))=some U→x=some U:=fun {x} h=>by
  rw [Option.bind_eq_some_iff] at h
  obtain ⟨V,h2,h3⟩:=h
  cases h3
  exact h2
 unfold wpOp
 rw [ho]
 simp only
 have go:Region.wanted o (yielded ops a.tmps)=true→(Am.stepU tab fns C (erD D) o (tk j))=some U→(if Region.wanted o (yielded ops a.tmps)=true then o.wp P a w K Q∨o.asks P a w∧LetsOut Q else K (a.put o.dst undef) w):=by
  intro hw e
  rw [if_pos hw]
  exact .inl (I.stepU ok hf hC e fun D' a' w' h1 h2 h3=>hK D' a' w' h1 (h2.elim fun y h=>⟨o,y,ho,h⟩) h3)
 unfold Am.runOps at e
 split at e
 ·rename_i hg
  exact go (by simp [Region.wanted,hg]) (h1 e)
 ·rename_i g want hg
  split at e
  case h_2=>cases e
  rename_i b hb
  have hy:yielded ops a.tmps g=b:=by
   rw [Option.bind_eq_some_iff] at hb
   obtain ⟨t,h1,h2⟩:=hb
   rw [qK] at h2
   have:=I.yieldAt h2
   unfold yielded
   rw [h1]
   exact this
  split at e
  ·rename_i hbw
   exact go (by simp [Region.wanted,hg,hy,hbw]) (h1 e)
  ·rename_i hbw
   have e1:=h1 e
   rw [if_neg (by simp [Region.wanted,hg,hy,hbw])]
   split at e1
   ·rename_i hdst
    cases e1
    exact hK D _ _ rfl ⟨o,undef,ho,rfl⟩ (by rw [hdst];exact I)
   ·rename_i t hdst
    rw [dL] at e1
    split at e1
    case isFalse=>cases e1
    rename_i ht
    cases e1
    exact hK _ _ _ (tD D t _) ⟨o,undef,ho,rfl⟩ (by rw [hdst];exact I.putUndef ht)
theorem wv {P:Program} {tab:Tab} (ok:a8 P tab) {fns:FuncId→Option Func} (hf:gG P fns) {B:Base} {C:Sem1} {cx:Cx} (hC:fB P B C cx) {ops:Array Oper} {tk:Nat→Bool} {Q:Exit→Act→World→Prop} {U:US} {T:Act→Prop}
  (hT:∀ o∈ops.toList,∀ a y,T a→T (a.put o.dst y)) (hQ:∀ D' a' w',erD D'=U→T a'→Inv cx D' [] a'.tmps w'→Q .normal a' w') :
  ∀ (n:Nat) (rem:List Nat) (listed:Array Bool) (D:DSt) (a:Act) (w:World),rem.length=n→listed.size=ops.size→rem.Nodup→(∀ i,i∈rem↔i<ops.size∧¬ aH listed i)→(∀ j i,i∈bz ops j→i<ops.size) →
   Inv cx D [] a.tmps w→T a→(∀ x∈oo tab fns C tk ops n rem (erD D),x=some U)→wpAny P .any ops Q n listed a w:=by
 intro n
 have hready:∀ {rem:List Nat} {listed:Array Bool},listed.size=ops.size→(∀ i,i∈rem↔i<ops.size∧¬ aH listed i)→(∀ j i,i∈bz ops j→i<ops.size)→∀ j,j∈Region.ready .any ops listed↔j∈rem.filter (fun j=>(bz ops j).all fun i => !rem.contains i):=by
  intro rem listed hs hr ht j
  rw [eK hs,List.mem_filter,hr,List.all_eq_true]
  constructor
  ·rintro ⟨h1,h2,h3⟩
   refine ⟨⟨h1,h2⟩,fun i hi => ?_⟩
   have:i∉rem:=fun q=>((hr i).1 q).2 (h3 i hi)
   simpa using this
  ·rintro ⟨⟨h1,h2⟩,h3⟩
   refine ⟨h1,h2,fun i hi => ?_⟩
   have:=h3 i hi
   have h4:i∉rem:=by simpa using this
   apply Classical.byContradiction
   intro q
   exact h4 ((hr i).2 ⟨ht j i hi,q⟩)
 induction n with
 | zero =>
  intro rem listed D a w hn hs hnd hr ht I hd hx
  have he:rem=[]:=List.length_eq_zero_iff.1 hn
  subst he
  refine ⟨?_,?_⟩
  ·apply List.eq_nil_iff_forall_not_mem.2
   intro i hi
   rw [hready hs hr ht] at hi
   cases hi
  ·have:=hx (some (erD D)) (by simp [oo])
   cases this
   exact hQ D a w rfl hd I
 | succ n ih =>
  intro rem listed D a w hn hs hnd hr ht I hd hx
  show _∧_
  unfold oo at hx
  cases hc:rem.filter (fun j=>(bz ops j).all fun i => !rem.contains i) with
  | nil=>rw [hc] at hx;have:=hx none (by simp);cases this
  | cons j0 js =>
   refine ⟨fun q => ?_,fun j hj => ?_⟩
   ·have:j0∈Region.ready .any ops listed:=by rw [hready hs hr ht,hc];simp
    rw [q] at this;cases this
   ·have hjr:=hj
    rw [hready hs hr ht] at hj
    have hj2:=(List.mem_filter.1 hj).1
    rw [hc] at hx hj
    have hx':∀ x∈(match Am.stepE tab fns C tk ops j (erD D) with | some D'=>oo tab fns C tk ops n (rem.erase j) D' | none=>[none]),x=some U:=fun x hxm=>hx x (List.mem_flatMap.2 ⟨j,hj,hxm⟩)
    split at hx'
    ·rename_i D1 hD1
     refine I.stepE ok hf hC hD1 fun D' a' w' e1 e2 e3 => ?_
     obtain ⟨r1,r2,r3⟩:=(eK hs).1 hjr
     obtain ⟨k1,k2,k3⟩:=sv hs hnd hr hj2
     refine ih (rem.erase j) (listed.setIfInBounds j true) D' a' w' (by omega) (by simp [hs]) k1 k2 ht e3 (by
      obtain ⟨o,y,q1,rfl⟩:=e2
      exact hT o (List.mem_of_getElem? (by simpa using q1)) a y hd) (by rw [e1];exact hx')
    ·have:=hx' none (by simp)
     cases this
end Go.Proofs.YtgaiiephdjllkaaGreatDoor.Am
namespace Go.Proofs.YtgaiiephdjllkaaGreatDoor.Am
set_option linter.unusedVariables false
set_option linter.unusedSimpArgs false
open Go
def vl (tk:Nat→Bool) (ops:Array Oper) (m0:Nat) (anc:List (List Nat)):Bool :=
 decide (m0+1≤ops.size) &&
 (List.range ops.size).all (fun j=>(bz ops j).all fun i=>decide (i<j)) &&
 (List.range (m0+1)).all (fun j=>((ops[j]?).bind (·.dst)).isSome)&&decide ((cp ops (m0+1)).Nodup) &&
 (List.range ops.size).all (fun j=>(anc.getD j []).all fun i=>(bz ops j).contains i || (bz ops j).any fun k=>(anc.getD k []).contains i) &&
 (List.range ops.size).all (fun j=>decide (j<m0+1) || (List.range m0).all fun i=>(bz ops j).contains i || (bz ops j).any fun k=>(anc.getD k []).contains i) &&
 (List.range (m0+1)).all (fun k=>match tko tk ops k with
  | some u=>(List.range (m0+1)).any (fun i=>(anc.getD k []).contains i&&decide ((ops[i]?).bind (·.dst)=some u)) && !((jW tk ops (m0+1) k).contains u)
  | none=>true)
structure pD (tk:Nat→Bool) (ops:Array Oper) (m0:Nat) (anc:List (List Nat)):Prop where
 le:m0+1≤ops.size
 topo:∀ j i,i∈bz ops j→i<j
 dst:∀ j,j<m0+1→∃ t,(ops[j]?).bind (·.dst)=some t
 nodup:(cp ops (m0+1)).Nodup
 seq:∀ j,m0+1≤j→j<ops.size→∀ i,i<m0→i∈bz ops j∨∃ k∈bz ops j,i∈anc.getD k []
 tk1:∀ k,k<m0+1→∀ u,tko tk ops k=some u→∃ i,i<m0+1∧i∈anc.getD k []∧(ops[i]?).bind (·.dst)=some u
 tk2:∀ k k' u,k<m0+1→k'<m0+1→tko tk ops k=some u→tko tk ops k'=some u→k=k'
 anc:∀ j,j<ops.size→∀ i∈anc.getD j [],i∈bz ops j∨∃ k∈bz ops j,i∈anc.getD k []
theorem EH {tk:Nat→Bool} {ops:Array Oper} {m0:Nat} {anc:List (List Nat)} (h:vl tk ops m0 anc=true):pD tk ops m0 anc:=by
 unfold vl at h
 rw [Bool.and_eq_true] at h
 obtain ⟨h,h7⟩:=h
 simp only [Bool.and_eq_true,List.all_eq_true,List.mem_range,decide_eq_true_eq,Bool.or_eq_true,List.contains_iff_mem,List.any_eq_true] at h
 obtain ⟨⟨⟨⟨⟨h1,h2⟩,h3⟩,h4⟩,h5⟩,h6⟩:=h
 have hk:∀ k,k<m0+1→∀ u,tko tk ops k=some u→((List.range (m0+1)).any (fun i=>(anc.getD k []).contains i&&decide ((ops[i]?).bind (·.dst)=some u)) && !((jW tk ops (m0+1) k).contains u))=true:=fun k hk u hu=>by
  have:=List.all_eq_true.1 h7 k (List.mem_range.2 hk)
  rw [hu] at this
  exact this
 refine ⟨h1,fun j i hi => ?_,fun j hj=>Option.isSome_iff_exists.1 (h3 j hj),h4,fun j hm hj i hi => ?_,fun k hkm u hu => ?_,fun k k' u hkm hkm' hu hu' => ?_,fun j hj i hi=>h5 j hj i hi⟩
 ·rcases Nat.lt_or_ge j ops.size with g | g
  ·exact h2 j g i hi
  ·unfold bz at hi
   rw [Array.getElem?_eq_none g] at hi
   cases hi
 ·rcases h6 j hj with g | g
  ·omega
  ·exact g i hi
 ·have:=hk k hkm u hu
  rw [Bool.and_eq_true,List.any_eq_true] at this
  obtain ⟨⟨i,hi,h8⟩,_⟩:=this
  rw [Bool.and_eq_true,List.contains_iff_mem,decide_eq_true_eq] at h8
  exact ⟨i,List.mem_range.1 hi,h8.1,h8.2⟩
 ·have:=hk k hkm u hu
  rw [Bool.and_eq_true] at this
  have h8:=this.2
  apply Classical.byContradiction
  intro hne
  have:u∈jW tk ops (m0+1) k:=List.mem_filterMap.2 ⟨k',List.mem_range.2 hkm',by rw [if_neg (fun e=>hne e.symm)];exact hu'⟩
  rw [← List.contains_iff_mem] at this
  rw [this] at h8
  cases h8
section
variable {tab : Tab} {fns : FuncId → Option Func} {C : Sem1} {tk : Nat → Bool} {ops : Array Oper} {m m0 : Nat} {anc : List (List Nat)} {V0 : US} {ts : Nat → Nat} {ss : Nat → Sl Unit Unit} {L L' : Nat → Prop} {U U' : US}
theorem FT (hD:pD tk ops m0 anc):∀ j,j<ops.size→∀ i∈anc.getD j [],i<j:=by
 intro j
 induction j using Nat.strongRecOn with
 | ind j ih =>
  intro hj i hi
  rcases hD.anc j hj i hi with g | ⟨k,g1,g2⟩
  ·exact hD.topo j i g
  ·have:=hD.topo j k g1
   have:=ih k this (by omega) i g2
   omega
theorem GT (hD:pD tk ops m0 anc):∀ j,j<m0+1→∀ i∈anc.getD j [],i<j:=fun j hj=>FT hD j (by have:=hD.le;omega)
theorem pc (hD:pD tk ops m0 anc) {L:Nat→Prop} (hc:∀ k,L k→∀ i∈bz ops k,L i):∀ j,j<ops.size→(∀ i∈bz ops j,L i)→∀ i∈anc.getD j [],L i:=by
 intro j
 induction j using Nat.strongRecOn with
 | ind j ih =>
  intro hj ha i hi
  rcases hD.anc j hj i hi with g | ⟨k,g1,g2⟩
  ·exact ha i g
  ·have hk:=hD.topo j k g1
   exact ih k hk (by omega) (hc k (ha k g1)) i g2
theorem Shows.ext2 (h:Shows tk ops m V0 ts ss L U) (h':Shows tk ops m V0 ts ss L U'):U=U':=by
 refine List.ext_getElem? fun u => ?_
 by_cases e2:∃ k,k<m∧L k∧tko tk ops k=some u
 ·obtain ⟨k,hk,hL,q⟩:=e2
  rw [h.gone k hk hL u q,h'.gone k hk hL u q]
 ·have e2':∀ k,k<m→L k→tko tk ops k≠some u:=fun k hk hL q=>e2 ⟨k,hk,hL,q⟩
  by_cases e:∃ i,i<m∧L i∧ts i=u
  ·obtain ⟨i,hi,hL,rfl⟩:=e
   rw [h.on i hi hL e2',h'.on i hi hL e2']
  ·have e':∀ i,i<m→L i→ts i≠u:=fun i hi hL q=>e ⟨i,hi,hL,q⟩
   rw [h.off u e' e2',h'.off u e' e2']
theorem pr:∀ (n j:Nat) {ss:Nat→Sl Unit Unit} {V U:US},Lex tk ops m anc V0 ts→j+n≤m→Shows tk ops m V0 ts ss (fun i=>i<j) V →
  ks tab fns C tk ops m anc n j V=some U→∃ ss',(∀ i,i<j→ss' i=ss i)∧Shows tk ops m V0 ts ss' (fun i=>i<j+n) U∧∀ i,j≤i→i<j+n→∃ Vi,Shows tk ops m V0 ts ss' (fun k=>k<i) Vi∧evM tab fns C tk ops m anc i Vi=some (ss' i)
 | 0,j,ss,V,U,hx,hj,hV,e=>by
  cases e
  exact ⟨ss,fun i _=>rfl,hV,fun i h1 h2=>by omega⟩
 | n+1,j,ss,V,U,hx,hj,hV,e=>by
  have hjm:j<m:=by omega
  simp only [ks,Option.bind_eq_some_iff] at e
  obtain ⟨V1,e1,e2⟩:=e
  obtain ⟨o,ho,hd⟩:=hx.dst j hjm
  unfold stepM at e1
  rw [ho,Option.bind_some,hd] at e1
  simp only at e1
  rw [hV.any hx hjm (Nat.lt_irrefl j)] at e1
  simp only [Option.map_eq_some_iff] at e1
  obtain ⟨s,e3,rfl⟩:=e1
  let ss1:Nat→Sl Unit Unit:=fun i=>if i=j then s else ss i
  have e5:ss1 j=s:=by simp [ss1]
  have e6:∀ i,i<j→ss1 i=ss i:=fun i hi=>by
   have:i≠j:=by omega
   simp [ss1,this]
  have hV':Shows tk ops m V0 ts ss1 (fun i=>i<j) V:=hV.congr fun i _ hL=>e6 i hL
  have hset:=hV'.set hx hjm (Nat.lt_irrefl j) (fun k hk hL i hi _=>Nat.lt_trans (hx.lt k hk i hi) hL)
  rw [e5] at hset
  obtain ⟨ss',h1,h2,h3⟩:=pr n (j+1) (ss:=ss1) (V:=(kW tk ops j V).set (ts j) s) hx (by omega) (hset.imp fun i _=>by constructor<;>intro q<;>omega) e2
  refine ⟨ss',fun i hi=>(h1 i (by omega)).trans (e6 i hi),h2.imp (fun i _=>by constructor<;>intro q<;>omega),fun i hi hm => ?_⟩
  by_cases e:i=j
  ·subst e
   refine ⟨V,hV'.congr fun k _ hL=>h1 k (by omega),?_⟩
   rw [h1 i (by omega),e5]
   exact e3
  ·exact h3 i (by omega) (by omega)
end
theorem Ep {P:Program} {tab:Tab} (ok:a8 P tab) {fns:FuncId→Option Func} (hf:gG P fns) {B:Base} {C:Sem1} {cx:Cx} (hC:fB P B C cx) {ops:Array Oper} {m0:Nat} {anc:List (List Nat)} {Q:Exit→Act→World→Prop}
  {tk:Nat→Bool} (hD:pD tk ops m0 anc) {V0:US} {ts:Nat→Nat} {ss:Nat→Sl Unit Unit} (hx:Lex tk ops (m0+1) anc V0 ts) (hv:∀ i,i<(m0+1)→∃ Vi,Shows tk ops (m0+1) V0 ts ss (fun k=>k<i) Vi∧evM tab fns C tk ops (m0+1) anc i Vi=some (ss i))
  (h0:∀ u∈fi tk ops (m0+1),∀ s∈V0,c9 u s=false) {T:Act→Prop} (hT:∀ o∈ops.toList,∀ a y,T a→T (a.put o.dst y)) (tail:∀ (rem:List Nat) (listed:Array Bool) (D:DSt) (a:Act) (w:World),listed.size=ops.size→rem.Nodup→(∀ i,i∈rem↔i<ops.size∧¬ aH listed i) →
   (∀ i,(m0+1)≤i→i<ops.size→¬ aH listed i)→(∀ i,i<m0→aH listed i)→Inv cx D [] a.tmps w→T a→Shows tk ops (m0+1) V0 ts ss (aH listed) (erD D)→wpAny P .any ops Q rem.length listed a w) :
  ∀ (n:Nat) (rem:List Nat) (listed:Array Bool) (D:DSt) (a:Act) (w:World),rem.length=n→listed.size=ops.size→rem.Nodup→(∀ i,i∈rem↔i<ops.size∧¬ aH listed i) →
   (∀ i,(m0+1)≤i→i<ops.size→¬ aH listed i)→(∀ k,aH listed k→∀ i∈bz ops k,aH listed i)→Inv cx D [] a.tmps w→T a→Shows tk ops (m0+1) V0 ts ss (aH listed) (erD D)→wpAny P .any ops Q n listed a w:=by
 intro n
 induction n with
 | zero =>
  intro rem listed D a w hn hs hnd hr hge hc I hd hS
  have he:rem=[]:=List.length_eq_zero_iff.1 hn
  have:=tail rem listed D a w hs hnd hr hge (fun i hi=>by
   by_cases q:aH listed i
   ·exact q
   ·have:=(hr i).2 ⟨by have:=hD.le;omega,q⟩
    rw [he] at this;cases this) I hd hS
  rw [he] at this
  exact this
 | succ n ih =>
  intro rem listed D a w hn hs hnd hr hge hc I hd hS
  by_cases hall:∀ i,i<m0→aH listed i
  ·have:=tail rem listed D a w hs hnd hr hge hall I hd hS
   rw [hn] at this
   exact this
  ·have hsome:∃ j,j<m0∧¬ aH listed j∧∀ i,i<j→aH listed i:=by
    have hex:∃ j,j<m0∧¬ aH listed j:=by
     apply Classical.byContradiction
     intro q
     exact hall fun i hi=>Classical.byContradiction fun q'=>q ⟨i,hi,q'⟩
    obtain ⟨j,h1,h2⟩:=hex
    induction j using Nat.strongRecOn with
    | ind j ihj =>
     by_cases q:∀ i,i<j→aH listed i
     ·exact ⟨j,h1,h2,q⟩
     ·have:∃ i,i<j∧¬ aH listed i:=Classical.byContradiction fun q'=>q fun i hi=>Classical.byContradiction fun q''=>q' ⟨i,hi,q''⟩
      obtain ⟨i,hi,hni⟩:=this
      exact ihj i hi (by omega) hni
   obtain ⟨j0,h1,h2,h3⟩:=hsome
   show _∧_
   refine ⟨fun q => ?_,fun j hj => ?_⟩
   ·have:j0∈Region.ready .any ops listed:=(eK hs).2 ⟨by have:=hD.le;omega,h2,fun i hi=>h3 i (hD.topo j0 i hi)⟩
    rw [q] at this;cases this
   ·obtain ⟨r1,r2,r3⟩:=(eK hs).1 hj
    have hjm:j<m0+1:=by
     rcases Nat.lt_or_ge j (m0+1) with g | g
     ·exact g
     ·rcases hD.seq j g r1 j0 h1 with q | ⟨k1,q1,q2⟩
      ·exact absurd (r3 j0 q) h2
      ·exact absurd (pc hD (fun k hk i hi=>hc k hk i hi) k1 (by have:=hD.topo j k1 q1;omega) (fun i hi=>hc k1 (r3 k1 q1) i hi) j0 q2) h2
    have hanc:∀ k∈anc.getD j [],aH listed k:=pc hD (fun k hk i hi=>hc k hk i hi) j r1 r3
    have hst:=Bj hx hv hS hjm r2 hanc
    have hnr:=hS.nr hx h0 (fun i hi=>by obtain ⟨Vi,_,q⟩:=hv i hi;exact zL q)
    refine I.stepM ok hf hC hjm hnr hst fun D' a' w' e1 e2 e3 => ?_
    have hjr:j∈rem:=(hr j).2 ⟨r1,r2⟩
    obtain ⟨k1,k2,k3⟩:=sv hs hnd hr hjr
    refine ih (rem.erase j) (listed.setIfInBounds j true) D' a' w' (by omega) (by simp [hs]) k1 k2 (fun i h4 h5 q => ?_) (fun k hk i hi => ?_) e3 (by
     obtain ⟨o,y,q1,rfl⟩:=e2
     exact hT o (List.mem_of_getElem? (by simpa using q1)) a y hd) ?_
    ·rw [eB] at q
     rcases q with ⟨q,_⟩ | q
     ·omega
     ·exact hge i h4 h5 q
    ·rw [eB] at hk ⊢
     rcases hk with ⟨rfl,_⟩ | hk
     ·exact .inr (r3 i hi)
     ·exact .inr (hc k hk i hi)
    ·rw [e1]
     refine (hS.set hx hjm r2 (fun k hk hL i hi _=>pc hD (fun k hk i hi=>hc k hk i hi) k (by have:=hD.le;omega) (fun i hi=>hc k hL i hi) i hi)).imp fun i _ => ?_
     rw [eB]
     constructor
     ·rintro (q | q)
      ·exact .inl ⟨q,by omega⟩
      ·exact .inr q
     ·rintro (⟨q,_⟩ | q)
      ·exact .inl q
      ·exact .inr q
end Go.Proofs.YtgaiiephdjllkaaGreatDoor.Am
namespace Go.Proofs.YtgaiiephdjllkaaGreatDoor.Am
set_option linter.unusedVariables false
set_option linter.unusedSimpArgs false
open Go
theorem vm (n k:Nat) (_:k≤n):(∀ i,i∈(List.range n).drop k↔k≤i∧i<n)∧((List.range n).drop k).Nodup∧((List.range n).drop k).length=n-k:=by
 refine ⟨fun i => ?_,List.nodup_range.sublist (List.drop_sublist _ _),by simp⟩
 rw [List.mem_iff_getElem?]
 constructor
 ·rintro ⟨j,hj⟩
  rw [List.getElem?_drop] at hj
  have hlt:k+j<n:=by
   rcases Nat.lt_or_ge (k+j) n with g | g
   ·exact g
   ·rw [List.getElem?_eq_none (by simpa using g)] at hj;cases hj
  rw [List.getElem?_range hlt] at hj
  cases hj
  omega
 ·rintro ⟨h1,h2⟩
  exact ⟨i-k,by rw [List.getElem?_drop,List.getElem?_range (by omega)];congr 1;omega⟩
open Classical in
noncomputable def runD2 (tab:Tab) (fns:FuncId→Option Func) (C:Sem1) (tk:Nat→Bool) (ops:Array Oper) (σ:List Nat) (m0:Nat) (anc:List (List Nat)) (D:US):Option US :=
 if y6 σ ops.size=true∧(vl tk (cn σ ops) m0 anc&&(cp (cn σ ops) (m0+1)).all (fun t=>decide (t<D.length))&&(killAll (cp (cn σ ops) (m0+1)) D).all (fun s=>(fi tk (cn σ ops) (m0+1)).all fun u => !c9 u s))=true then
  (ks tab fns C tk (cn σ ops) (m0+1) anc m0 0 (killAll (cp (cn σ ops) (m0+1)) D)).bind fun Vx =>
   (ks tab fns C tk (cn σ ops) (m0+1) anc 1 m0 Vx).bind fun Vm =>
    match oo tab fns C tk (cn σ ops) (ops.size-(m0+1)) ((List.range ops.size).drop (m0+1)) Vm with
    | some U::r=>if bN r U∧bN (oo tab fns C tk (cn σ ops) (ops.size-m0) ((List.range ops.size).drop m0) Vx) U then some U else none
    | _=>none
 else none
theorem Inv.runD2 {P:Program} {tab:Tab} (ok:a8 P tab) (hm:P.follows .mixedOrders=true) {fns:FuncId→Option Func} (hf:gG P fns) {B:Base} {C:Sem1} {cx:Cx} (hC:fB P B C cx) {tk:Nat→Bool} {ops:Array Oper} {σ:List Nat} {m0:Nat} {anc:List (List Nat)}
  {Q:Exit→Act→World→Prop}  {U:US} {T:Act→Prop} (hT:∀ o∈ops.toList,∀ a y,T a→T (a.put o.dst y)) (hQ:∀ D' a' w',erD D'=U→T a'→Inv cx D' [] a'.tmps w'→Q .normal a' w') {id:Nat} {D:DSt} {a:Act} {w:World} (I:Inv cx D [] a.tmps w) (hd:T a)
  (e:Am.runD2 tab fns C tk ops σ m0 anc (erD D)=some U):(Code.region id ops true).wp P Q a w:=by
 unfold Am.runD2 at e
 split at e
 case isFalse=>cases e
 rename_i hc
 obtain ⟨hp,hB⟩:=hc
 have hP:=Gv hp
 have hz:=vY hP
 have hT':∀ o∈(cn σ ops).toList,∀ a y,T a→T (a.put o.dst y):=by
  intro o ho
  unfold cn at ho
  rw [List.mem_map] at ho
  obtain ⟨o',h1,rfl⟩:=ho
  rw [List.mem_filterMap] at h1
  obtain ⟨j,_,h2⟩:=h1
  exact hT o' (List.mem_of_getElem? (by simpa using h2))
 rw [Bool.and_eq_true,Bool.and_eq_true] at hB
 obtain ⟨⟨hB,hlen⟩,hV0⟩:=hB
 refine wp_region_any hm (Eo hP ops.size _ (Array.replicate ops.size false) a _ (by simp) (by simp) (fun j=>⟨fun q=>absurd q dC,fun q=>absurd q dC⟩) ?_)
 rw [← hz] at e ⊢
 generalize cn σ ops=ops' at *
 clear hP hp hT
 have hD:=EH hB
 rw [Option.bind_eq_some_iff] at e
 obtain ⟨Vx,e1,e⟩:=e
 rw [Option.bind_eq_some_iff] at e
 obtain ⟨Vm,e2,e3⟩:=e
 rw [← ie] at e1 hV0
 have I0:=(I.drewn).killAll (cp ops' (m0+1))
 generalize hD0:Am.killAll (cp ops' (m0+1)) D=D0 at e1 I0 hV0
 have hts:∃ ts:Nat→Nat,∀ j,j<m0+1→(ops'[j]?).bind (·.dst)=some (ts j):=by
  refine ⟨fun j=>((ops'[j]?).bind (·.dst)).getD 0,fun j hj => ?_⟩
  obtain ⟨t,ht⟩:=hD.dst j hj
  simp [ht]
 obtain ⟨ts,hts⟩:=hts
 have hget:∀ j,j<m0+1→∃ o,ops'[j]?=some o∧o.dst=some (ts j):=fun j hj=>by
  have:=hts j hj
  rw [Option.bind_eq_some_iff] at this
  exact this
 have hinj:∀ i j,i<m0+1→j<m0+1→ts i=ts j→i=j:=by
  have hdst:cp ops' (m0+1)=(List.range (m0+1)).map ts:=by
   unfold cp
   exact mW fun i hi=>hts i (List.mem_range.1 hi)
  have hnd:=hD.nodup
  rw [hdst] at hnd
  intro i j hi hj h
  have:=(List.pairwise_map.1 hnd)
  rcases Nat.lt_trichotomy i j with g | g | g
  ·exact absurd h (List.pairwise_iff_getElem.1 this i j (by simpa using hi) (by simpa using hj) g |> fun q=>by simpa using q)
  ·exact g
  ·exact absurd h.symm (List.pairwise_iff_getElem.1 this j i (by simpa using hj) (by simpa using hi) g |> fun q=>by simpa using q)
 have hmem:∀ j,j<m0+1→ts j∈cp ops' (m0+1):=fun j hj=>List.mem_filterMap.2 ⟨j,List.mem_range.2 hj,hts j hj⟩
 have hx:Lex tk ops' (m0+1) anc (erD D0) ts:=⟨hget,hinj,fun j hj=>by
  rw [← hD0,ie]
  refine pn _ ?_ (.inl (hmem j hj))
  simpa using List.all_eq_true.1 hlen _ (hmem j hj),fun k hk u hu=>by
   obtain ⟨i,hi,hia,hd'⟩:=hD.tk1 k hk u hu
   rw [hts i hi] at hd'
   exact ⟨i,hi,hia,by cases hd';rfl⟩,hD.tk2,GT hD⟩
 have h0:Shows tk ops' (m0+1) (erD D0) ts (fun _ => .any) (fun i=>i<0) (erD D0):=⟨rfl,fun j _ q=>by omega,fun j _ q=>by omega,fun u _ _=>rfl⟩
 obtain ⟨s1,_,k2,k3⟩:=pr m0 0 hx (by omega) h0 e1
 obtain ⟨ss,g1,g2,g3⟩:=pr 1 m0 hx (by omega) (k2.imp fun i _=>by rw [Nat.zero_add]) e2
 have kx:Shows tk ops' (m0+1) (erD D0) ts ss (fun i=>i<m0) Vx:=(k2.imp fun i _=>by rw [Nat.zero_add]).congr fun i _ hL=>g1 i hL
 have hv:∀ i,i<m0+1→∃ Vi,Shows tk ops' (m0+1) (erD D0) ts ss (fun k=>k<i) Vi∧evM tab fns C tk ops' (m0+1) anc i Vi=some (ss i):=fun i hi=>by
  by_cases h:i<m0
  ·obtain ⟨Vi,q1,q2⟩:=k3 i (Nat.zero_le i) (by omega)
   exact ⟨Vi,q1.congr fun k _ hL=>g1 k (by omega),by rw [q2,g1 i h]⟩
  ·exact g3 i (by omega) hi
 have hnr0:∀ u∈fi tk ops' (m0+1),∀ s∈erD D0,c9 u s=false:=fun u hu s hs=>by
  have:=List.all_eq_true.1 (List.all_eq_true.1 hV0 s hs) u hu
  simpa using this
 have hfull:(∀ x∈oo tab fns C tk ops' (ops'.size-(m0+1)) ((List.range ops'.size).drop (m0+1)) Vm,x=some U)∧∀ x∈oo tab fns C tk ops' (ops'.size-m0) ((List.range ops'.size).drop m0) Vx,x=some U:=by
  split at e3
  case h_2=>cases e3
  rename_i U' r hr
  split at e3
  case isFalse=>cases e3
  rename_i hq
  cases e3
  refine ⟨fun x hx => ?_,r6 hq.2⟩
  rw [hr] at hx
  rcases List.mem_cons.1 hx with rfl | hx
  ·rfl
  ·exact r6 hq.1 x hx
 have hsz:∀ j i,i∈bz ops' j→i<ops'.size:=fun j i hi=>by
  have:=hD.topo j i hi
  rcases Nat.lt_or_ge j ops'.size with g | g
  ·omega
  ·unfold bz at hi
   rw [Array.getElem?_eq_none g] at hi
   cases hi
 have hle:=hD.le
 refine Ep ok hf hC hD hx hv hnr0 (T:=T) hT' (fun rem listed D' a' w' hs hnd hr hge hall I' hd' hS => ?_) ops'.size (List.range ops'.size) _ D0 a _ (by simp) (by simp) List.nodup_range (fun i => ?_) (fun i h1 h2 q => ?_) (fun k hk => ?_) I0 hd ?_
 ·by_cases hq:aH listed m0
  ·have hall':∀ i,i<m0+1→aH listed i:=fun i hi=>by
    rcases Nat.lt_or_ge i m0 with g | g
    ·exact hall i g
    ·have:i=m0:=by omega
     rw [this];exact hq
   have hE:erD D'=Vm:=hS.ext2 (g2.imp fun i hi=>⟨fun _=>hall' i hi,fun _=>hi⟩)
   obtain ⟨d1,d2,d3⟩:=vm ops'.size (m0+1) hle
   have hr':∀ i,i∈(List.range ops'.size).drop (m0+1)↔i<ops'.size∧¬ aH listed i:=fun i=>by
    rw [d1]
    constructor
    ·exact fun q=>⟨q.2,hge i q.1 q.2⟩
    ·rintro ⟨q1,q2⟩
     rcases Nat.lt_or_ge i (m0+1) with g | g
     ·exact absurd (hall' i g) q2
     ·exact ⟨g,q1⟩
   have hl:rem.length=ops'.size-(m0+1):=by
    rw [← d3]
    exact ((List.perm_ext_iff_of_nodup hnd d2).2 fun i=>by rw [hr,hr']).length_eq
   rw [hl]
   exact wv ok hf hC hT' hQ _ _ listed D' a' w' d3 hs d2 hr' hsz I' hd' (by rw [hE];exact hfull.1)
  ·have hE:erD D'=Vx:=hS.ext2 (kx.imp fun i hi=>⟨fun q=>hall i q,fun q=>by
    rcases Nat.lt_or_ge i m0 with g | g
    ·exact g
    ·have:i=m0:=by omega
     rw [this] at q;exact absurd q hq⟩)
   obtain ⟨d1,d2,d3⟩:=vm ops'.size m0 (by omega)
   have hr':∀ i,i∈(List.range ops'.size).drop m0↔i<ops'.size∧¬ aH listed i:=fun i=>by
    rw [d1]
    constructor
    ·rintro ⟨q1,q2⟩
     refine ⟨q2,?_⟩
     by_cases g:i=m0
     ·rw [g];exact hq
     ·exact hge i (by omega) q2
    ·rintro ⟨q1,q2⟩
     rcases Nat.lt_or_ge i m0 with g | g
     ·exact absurd (hall i g) q2
     ·exact ⟨g,q1⟩
   have hl:rem.length=ops'.size-m0:=by
    rw [← d3]
    exact ((List.perm_ext_iff_of_nodup hnd d2).2 fun i=>by rw [hr,hr']).length_eq
   rw [hl]
   exact wv ok hf hC hT' hQ _ _ listed D' a' w' d3 hs d2 hr' hsz I' hd' (by rw [hE];exact hfull.2)
 ·rw [List.mem_range]
  constructor
  ·intro q
   exact ⟨q,dC⟩
  ·exact fun q=>q.1
 ·exact dC q
 ·exact absurd hk dC
 ·exact ⟨rfl,fun j hj q=>absurd q dC,fun k hk q=>absurd q dC,fun u _ _=>rfl⟩
end Go.Proofs.YtgaiiephdjllkaaGreatDoor.Am
namespace Go.Proofs.YtgaiiephdjllkaaGreatDoor.Am
set_option linter.unusedVariables false
set_option linter.unusedSimpArgs false
open Go
section
variable {δ β : Type}
def forgetOne (l:List Nat) (D:St δ β) (t:Nat):St δ β :=
 if l.contains t then D else match D[t]? with | some .any=>D | some _=>aL D (some t) .any | none=>D
def forget (l:List Nat) (D:St δ β):St δ β:=(List.range D.length).foldl (forgetOne l) D
end
theorem zC (l:List Nat) (D:DSt) (t:Nat):erD (forgetOne l D t)=forgetOne l (erD D) t:=by
 unfold forgetOne
 rw [bE]
 split
 ·rfl
 ·cases D[t]? with
  | none=>rfl
  | some s=>cases s<;>first | rfl | exact bK D (some t) .any
theorem zB (l:List Nat):∀ (ts:List Nat) (D:DSt),erD (ts.foldl (forgetOne l) D)=ts.foldl (forgetOne l) (erD D)
 | [],D=>rfl
 | t::ts,D=>by simp only [List.foldl_cons];rw [zB l ts,zC]
theorem mL (l:List Nat) (D:DSt):erD (forget l D)=forget l (erD D):=by
 unfold forget;rw [zB,dL]
theorem Inv.forgetOne {cx:Cx} {D:DSt} {tm:Array Value} {w:World} (I:Inv cx D [] tm w) (l:List Nat) (t:Nat):Inv cx (forgetOne l D t) [] tm w:=by
 unfold Am.forgetOne
 split
 ·exact I
 ·split
  ·exact I
  ·rename_i s h
   refine I.lose ?_
   rcases Nat.lt_or_ge t D.length with g | g
   ·exact g
   ·rw [List.getElem?_eq_none g] at h;cases h
  ·exact I
theorem Inv.forgetL {cx:Cx} {tm:Array Value} {w:World} (l:List Nat):∀ (ts:List Nat) {D:DSt},Inv cx D [] tm w→Inv cx (ts.foldl (Am.forgetOne l) D) [] tm w
 | [],D,I=>I
 | t::ts,D,I=>by simp only [List.foldl_cons];exact Inv.forgetL l ts (I.forgetOne l t)
theorem Inv.forget {cx:Cx} {D:DSt} {tm:Array Value} {w:World} (I:Inv cx D [] tm w) (l:List Nat):Inv cx (forget l D) [] tm w:=Inv.forgetL l _ I
structure gz where
 take:Nat→Nat→Bool:=fun _ _=>false
 keep:Nat→Option (List Nat):=fun _=>none
 head:Nat→Option (List Nat):=fun _=>none
 tail:Nat→Exit→Option (List Nat):=fun _ _=>none
 draw:Nat→Option (Nat×List (List Nat)):=fun _=>none
 late:Nat→Option (List Nat):=fun _=>none
noncomputable def runDL (tab:Tab) (fns:FuncId→Option Func) (C:Sem1) (tk:Nat→Bool) (late:Option (List Nat)) (ops:Array Oper) (m:Nat) (anc:List (List Nat)) (D:US):Option US :=
 match late with
 | some σ=>runD2 tab fns C tk ops σ m anc D
 | none=>runD tab fns C tk ops m anc D
theorem Inv.runDL {P:Program} {tab:Tab} (ok:a8 P tab) (hm:P.follows .mixedOrders=true) {fns:FuncId→Option Func} (hf:gG P fns) {B:Base} {C:Sem1} {cx:Cx} (hC:fB P B C cx) {tk:Nat→Bool} {late:Option (List Nat)} {ops:Array Oper} {m:Nat} {anc:List (List Nat)}
  {Q:Exit→Act→World→Prop} {U:US} {T:Act→Prop} (hT:∀ o∈ops.toList,∀ a y,T a→T (a.put o.dst y)) (hQ:∀ D' a' w',erD D'=U→T a'→Inv cx D' [] a'.tmps w'→Q .normal a' w') {id:Nat} {D:DSt} {a:Act} {w:World} (I:Inv cx D [] a.tmps w) (hd:T a)
  (e:Am.runDL tab fns C tk late ops m anc (erD D)=some U):(Code.region id ops true).wp P Q a w:=by
 unfold Am.runDL at e
 split at e
 ·exact I.runD2 ok hm hf hC hT hQ hd e
 ·exact I.runD ok hm hf hC hT hQ hd e
def H0 {R:Type} (g:US→Option R) (K:Exit→US→Option R) (e:Exit) (D:US):Option R :=
 match e with | .normal=>g D | e=>K e D
def nA {R:Type} (body:US→(Exit→US→Option R)→Option R):Nat→US→(Exit→US→Option R)→Option R
 | 0,_,_=>none
 | m+1,D,K=>body D (H0 (fun D'=>nA body m D' K) K)
def sB:Code→Option Nat
 | .region id _ _=>some id
 | .seq x y=>match sB x with | some i=>some i | none=>sB y
 | .block _ c=>sB c
 | _=>none
def atHead {δ β:Type} (h:gz) (c:Code) (D:St δ β):St δ β :=
 match (sB c).bind h.head with | some l=>forget l D | none=>D
theorem xE (h:gz) (c:Code) (D:DSt):erD (atHead h c D)=atHead h c (erD D):=by
 unfold atHead
 split
 ·exact mL _ D
 ·rfl
theorem Inv.atHead {cx:Cx} {D:DSt} {tm:Array Value} {w:World} (I:Inv cx D [] tm w) (h:gz) (c:Code):Inv cx (atHead h c D) [] tm w:=by
 unfold Am.atHead
 split
 ·exact I.forget _
 ·exact I
def atTail {δ β:Type} (h:gz) (c:Code) (e:Exit) (D:St δ β):St δ β :=
 match (sB c).bind (h.tail · e) with | some l=>forget l D | none=>D
theorem EJ (h:gz) (c:Code) (e:Exit) (D:DSt):erD (atTail h c e D)=atTail h c e (erD D):=by
 unfold atTail
 split
 ·exact mL _ D
 ·rfl
theorem Inv.atTail {cx:Cx} {D:DSt} {tm:Array Value} {w:World} (I:Inv cx D [] tm w) (h:gz) (c:Code) (e:Exit):Inv cx (atTail h c e D) [] tm w:=by
 unfold Am.atTail
 split
 ·exact I.forget _
 ·exact I
def canon {δ β:Type} (h:gz) (c:Code) (e:Exit) (D:St δ β):St δ β :=
 match e with | .normal=>atHead h c D | e=>atTail h c e D
theorem F6 (h:gz) (c:Code) (e:Exit) (D:DSt):erD (canon h c e D)=canon h c e (erD D):=by
 unfold canon
 split
 ·exact xE h c D
 ·exact EJ h c _ D
theorem Inv.canon {cx:Cx} {D:DSt} {tm:Array Value} {w:World} (I:Inv cx D [] tm w) (h:gz) (c:Code) (e:Exit):Inv cx (canon h c e D) [] tm w:=by
 unfold Am.canon
 split
 ·exact I.atHead h c
 ·exact I.atTail h c _
def qf (ops:List Oper):Option (List Oper×TypeId×Operand×Nat×Bool) :=
 match ops.getLast? with
 | some ⟨some d,.binOp op t x (.const (.slice none 0 0)) _,_,_,_,none⟩=>(match op with | .eql=>some (ops.dropLast,t,x,d,false) | .neq=>some (ops.dropLast,t,x,d,true) | _=>none)
 | _=>none
def oi {δ β:Type} (M:Mk δ β) (tab:Tab) (D:St δ β) (t:TypeId) (x:Operand):Option Nat :=
 match tab.ti t with
 | some ⟨_,_,_,.slice _⟩ =>
  match opd M.nil D x with
  | some (.one (.s _ _ _ rows))=>some rows.length
  | _=>none
 | _=>none
open Classical in
noncomputable def pU {R:Type} (D:US) (d:Nat) (ng:Bool) (n:Nat) (K:US→Option R):Option R :=
 if n=0 then
  match K (putA D d (.one (.v (.bool (!ng))))) with
  | some r=>if K (putA D d (.one (.v (.bool ng))))=some r then some r else none
  | none=>none
 else K (putA D d (.one (.v (.bool ng))))
noncomputable def dU (tab:Tab) (fns:FuncId→Option Func) (C:Sem1) (h:gz) (n:Nat) {R:Type}:Code→US→(Exit→US→Option R)→Option R
 | .skip,D,K=>K .normal D
 | .region id ops draw,D,K =>
  match draw with
  | true=>(match h.draw id with
   | some (m,anc)=>runDL tab fns C (h.take id) (h.late id) ops m anc (match h.keep id with | some l=>forget l D | none=>D)
   | none=>none).bind fun D'=>K .normal D'
  | false =>
   match qf ops.toList with
   | some (init,t,x,d,ng)=>(runOps tab fns C (h.take id) ops init 0 (match h.keep id with | some l=>forget l D | none=>D)).bind fun D' =>
    match oi mkU tab D' t x with
    | some n=>if d<D'.length then pU D' d ng n (K .normal) else none
    | none=>none
   | none=>(runOps tab fns C (h.take id) ops ops.toList 0 (match h.keep id with | some l=>forget l D | none=>D)).bind fun D'=>K .normal D'
 | .seq x y,D,K=>dU tab fns C h n x D fun e D'=>match e with | .normal=>dU tab fns C h n y D' K | e=>K e D'
 | .cond c x y,D,K=>match boolOf mkU D c with | some true=>dU tab fns C h n x D K | some false=>dU tab fns C h n y D K | none=>none
 | .block id c,D,K=>dU tab fns C h n c D fun e D'=>match e with | .exit id'=>if id'=id then K .normal D' else K (.exit id') D' | e=>K e D'
 | .exit id,D,K=>K (.exit id) D
 | .ret,D,K=>K .ret D
 | .loop c,D,K=>nA (fun D K=>dU tab fns C h n c D fun e D'=>K e (canon h c e D')) n (atHead h c D) K
 | _,_,_=>none
theorem EQ (tab:Tab) (D:DSt) (t:TypeId) (x:Operand):oi mkU tab (erD D) t x=oi mkD tab D t x:=by
 unfold oi
 rw [bR]
 split
 ·cases opd mkD.nil D x with
  | none=>rfl
  | some s =>
   cases s with
   | one u=>cases u<;>simp [Sl.er,T.er,xC]
   | _=>rfl
 ·rfl
theorem Ax {ops init:List Oper} {t:TypeId} {x:Operand} {d:Nat} {ng:Bool} (h:qf ops=some (init,t,x,d,ng)) :
  ∃ o:Oper,ops=init++[o]∧o.dst=some d∧o.guard=none∧∃ ty,o.op = .binOp (if ng then .neq else .eql) t x (.const (.slice none 0 0)) ty:=by
 unfold qf at h
 split at h
 case h_2=>cases h
 rename_i op t' x' ty d' p q hl
 have hne:=List.getLast?_eq_some_iff.1 hl
 obtain ⟨ys,hys⟩:=hne
 split at h
 ·cases h
  exact ⟨⟨some d,.binOp .eql t x (.const (.slice none 0 0)) ty,d',p,q,none⟩,by rw [hys];simp,rfl,rfl,ty,rfl⟩
 ·cases h
  exact ⟨⟨some d,.binOp .neq t x (.const (.slice none 0 0)) ty,d',p,q,none⟩,by rw [hys];simp,rfl,rfl,ty,rfl⟩
 ·cases h
theorem Hk {P:Program} {t e:TypeId} (hu:P.underlying t=some (.slice e)) (ng:Bool) (ad:Option Addr) (n cap:Nat) (w:World) :
  (binOp (if ng then .neq else .eql) t (.slice ad n cap) (.slice none 0 0)).run P w = .ok (.bool (if ad.isNone then !ng else ng)) w:=by
 have h1:∀ d,(Op.equalIn (d+1) t (.slice ad n cap) (.slice none 0 0)).run P w = .ok ad.isNone w:=fun d=>by
  unfold Op.equalIn
  cases ad<;>simp [run_underlying hu]
 have h2:(Op.equal t (.slice ad n cap) (.slice none 0 0)).run P w = .ok ad.isNone w:=h1 9999
 cases ng with
 | false =>
  show (do pure (.bool (← Op.equal t (.slice ad n cap) (.slice none 0 0))):Sem Value).run P w=_
  simp [h2]
  cases ad<;>rfl
 | true =>
  show (do pure (.bool (!(← Op.equal t (.slice ad n cap) (.slice none 0 0)))):Sem Value).run P w=_
  simp [h2]
  cases ad<;>rfl
theorem Inv.nilStep {P:Program} {tab:Tab} (ok:a8 P tab) {ops:Array Oper} {Q:Exit→Act→World→Prop} {cx:Cx} {R:Type} {r:R} {D:DSt} {a:Act} {w:World} (I:Inv cx D [] a.tmps w) {t:TypeId} {x:Operand} {n d:Nat} {ng:Bool} {K:US→Option R} {o:Oper}
  (hn:oi mkU tab (erD D) t x=some n) (hd:d<D.length) (hop:∃ ty,o.op = .binOp (if ng then .neq else .eql) t x (.const (.slice none 0 0)) ty) (hdst:o.dst=some d) (hg:o.guard=none) (e:pU (erD D) d ng n K=some r)
  (hQ:∀ D2 y,K (erD D2)=some r→Inv cx D2 [] (a.put o.dst y).tmps w→Q .normal (a.put o.dst y) w):wpList P ops Q [o] a w:=by
 rw [EQ] at hn
 unfold oi at hn
 split at hn
 case h_2=>cases hn
 rename_i sz by_ ze el hti
 have hu:=ef (Tab.ok ok hti) rfl
 split at hn
 case h_2=>cases hn
 rename_i k dd z rows hx
 cases hn
 have hT:=I.opd hx
 have hy:a.eval x = .slice dd.addr rows.length dd.cap:=hT.val
 obtain ⟨ty,hop⟩:=hop
 have hrun:(execOp a.eval o).run P w = .ok (.value (.bool (if dd.addr.isNone then !ng else ng))) w:=by
  unfold execOp
  rw [hop]
  have h1:=Hk hu ng dd.addr rows.length dd.cap w
  have h2:a.eval (.const (.slice none 0 0)) = .slice none 0 0:=rfl
  simp only [hy,h2]
  have h3:(eqGuard (if ng=true then BinOp.neq else BinOp.eql) t x (.const (.slice none 0 0)) (.slice dd.addr rows.length dd.cap) (.slice none 0 0)).run P w = .ok () w:=by
   cases ng<;>rfl
  simp [h1,h3]
 have go:∀ β:Bool,K (Am.putA (erD D) d (.one (.v (.bool β))))=some r→(if dd.addr.isNone then !ng else ng)=β→Q .normal (a.put o.dst (.bool (if dd.addr.isNone then !ng else ng))) w:=fun β h1 h2=>by
  refine hQ (Am.putA D d (.one (.v (.bool β)))) _ ?_ ?_
  ·rw [tD]
   exact h1
  ·rw [hdst,h2]
   exact I.putA hd (Tells.one_v (.bool β) rfl)
 unfold wpList
 rw [if_pos (by simp [Region.wanted,hg])]
 refine .inl ?_
 unfold Oper.wp
 rw [hrun]
 show wpList P ops Q [] _ w
 unfold wpList
 unfold pU at e
 split at e
 ·split at e
  case h_2=>cases e
  rename_i r1 h1
  split at e
  case isFalse=>cases e
  rename_i h2
  cases e
  cases hb:dd.addr.isNone with
  | true=>have:=go (!ng) h1 (by simp [hb]);rwa [hb] at this
  | false=>have:=go ng h2 (by simp [hb]);rwa [hb] at this
 ·rename_i hne
  have hb:dd.addr.isNone=false:=by
   cases hq:dd.addr with
   | some _=>rfl
   | none =>
    exfalso
    have hH:=hT.mem.1 (.s k dd z rows) (by simp [ai])
    have hnil:dd.nil=true:=by
     unfold Dec.addr at hq
     split at hq
     ·cases hq
     ·cases hd2:dd.nil with
      | true=>rfl
      | false=>rw [hd2] at hq;cases hq
    exact hne (by rw [Holds.nilrows hH hnil];rfl)
  exact go ng e (by simp [hb])
def nB:Code→List Oper
 | .region _ ops _=>ops.toList
 | .seq x y=>nB x++nB y
 | .cond _ x y=>nB x++nB y
 | .block _ c=>nB c
 | .loop c=>nB c
 | _=>[]
def Gk (is:List Nat) (c:Code):Bool:=is.isEmpty || (nB c).all fun o=>match o.dst with | some t => !is.contains t | none=>true
theorem ir {P:Program} {tab:Tab} (ok:a8 P tab) {fns:FuncId→Option Func} (hf:gG P fns) {B:Base} {C:Sem1} {cx:Cx} (hC:fB P B C cx) {h:gz} {n:Nat} {R:Type} {T:Act→Prop} {r:R} :
  ∀ (c:Code) {K:Exit→US→Option R} {Q:Exit→Act→World→Prop},(∀ o∈nB c,∀ a y,T a→T (a.put o.dst y))→(∀ e D' a' w',K e (erD D')=some r→T a'→Inv cx D' [] a'.tmps w'→Q e a' w') →
   ∀ {D:DSt} {a:Act} {w:World},Inv cx D [] a.tmps w→T a→dU tab fns C h n c (erD D) K=some r→c.wp P Q a w
 | .skip,K,Q,hT,hQ,D,a,w,I,hd,e=>wp_skip (hQ .normal D a w e hd I)
 | .region id ops draw,K,Q,hT,hQ,D,a,w,I,hd,e=>by
  simp only [dU] at e
  cases draw with
  | true =>
   simp only at e
   rw [Option.bind_eq_some_iff] at e
   obtain ⟨U,e1,e2⟩:=e
   split at e1
   case h_2=>cases e1
   rename_i m anc hdr
   have key:∀ D1,Inv cx D1 [] a.tmps w→Am.runDL tab fns C (h.take id) (h.late id) ops m anc (erD D1)=some U→(Code.region id ops true).wp P Q a w:=fun D1 I1 e1 =>
    Inv.runDL (tk:=h.take id) (late:=h.late id) ok ok.mixed hf hC hT (fun D' a' w' h1 h2 h3=>hQ .normal D' a' w' (by rw [h1];exact e2) h2 h3) I1 hd e1
   split at e1
   ·rename_i l hl
    rw [← mL] at e1
    exact key _ (I.forget l) e1
   ·exact key _ I e1
  | false =>
   simp only at e
   refine wp_region_list ?_
   split at e
   ·rename_i init t x d ng hl
    rw [Option.bind_eq_some_iff] at e
    obtain ⟨U,e1,e2⟩:=e
    obtain ⟨o,ho,hdst,hgd,hrun⟩:=Ax hl
    have hT:∀ o'∈init++[o],∀ a y,T a→T (a.put o'.dst y):=fun o' ho'=>hT o' (by show o'∈ops.toList;rw [ho];exact ho')
    rw [ho]
    have key:∀ D1,Inv cx D1 [] a.tmps w→Am.runOps tab fns C (h.take id) ops init 0 (erD D1)=some U→wpList P ops Q (init++[o]) a w:=fun D1 I1 e1 =>
     Inv.runOps2 (tk:=h.take id) ok hf hC (fun D' a' w' h1 h2 h3=>by
      subst h1
      split at e2
      case h_2=>cases e2
      rename_i n hn
      rw [dL] at e2
      split at e2
      case isFalse=>cases e2
      rename_i hd'
      exact h3.nilStep ok hn hd' hrun hdst hgd e2 (fun D2 y h4 h5=>hQ .normal D2 _ _ h4 (hT o (by simp) a' y h2) h5)) init 0 (fun o' ho'=>hT o' (by simp [ho'])) I1 hd e1
    split at e1
    ·rename_i l hl
     rw [← mL] at e1
     exact key _ (I.forget l) e1
    ·exact key _ I e1
   rw [Option.bind_eq_some_iff] at e
   obtain ⟨U,e1,e2⟩:=e
   have key:∀ D1,Inv cx D1 [] a.tmps w→Am.runOps tab fns C (h.take id) ops ops.toList 0 (erD D1)=some U→wpList P ops Q ops.toList a w:=fun D1 I1 e1 =>
    Inv.runOps (tk:=h.take id) ok hf hC (fun D' a' w' h1 h2 h3=>hQ .normal D' a' w' (by rw [h1];exact e2) h2 h3) ops.toList 0 hT I1 hd e1
   split at e1
   ·rename_i l hl
    rw [← mL] at e1
    exact key _ (I.forget l) e1
   ·exact key _ I e1
 | .seq x y,K,Q,hT,hQ,D,a,w,I,hd,e=>by
  simp only [dU] at e
  refine wp_seq (ir ok hf hC x (fun o ho=>hT o (List.mem_append.2 (.inl ho))) (fun e' D' a' w' h1 h2 h3 => ?_) I hd e)
  cases e' with
  | normal=>exact ir ok hf hC y (fun o ho=>hT o (List.mem_append.2 (.inr ho))) hQ h3 h2 h1
  | _=>exact hQ _ D' a' w' h1 h2 h3
 | .cond c x y,K,Q,hT,hQ,D,a,w,I,hd,e=>by
  simp only [dU,EK] at e
  split at e
  ·rename_i hb
   exact wp_cond (I.boolOf hb) (ir ok hf hC x (fun o ho=>hT o (List.mem_append.2 (.inl ho))) hQ I hd e)
  ·rename_i hb
   exact wp_cond (I.boolOf hb) (ir ok hf hC y (fun o ho=>hT o (List.mem_append.2 (.inr ho))) hQ I hd e)
  ·cases e
 | .block id c,K,Q,hT,hQ,D,a,w,I,hd,e=>by
  simp only [dU] at e
  refine wp_block (ir ok hf hC c hT (fun e' D' a' w' h1 h2 h3 => ?_) I hd e)
  cases e' with
  | exit id' =>
   simp only [Exit.inBlock]
   simp only at h1
   split
   ·rename_i hid
    rw [if_pos hid] at h1
    exact hQ .normal D' a' w' h1 h2 h3
   ·rename_i hid
    rw [if_neg hid] at h1
    exact hQ _ D' a' w' h1 h2 h3
  | _=>exact hQ _ D' a' w' h1 h2 h3
 | .exit id,K,Q,hT,hQ,D,a,w,I,hd,e=>wp_exit (hQ (.exit id) D a w e hd I)
 | .ret,K,Q,hT,hQ,D,a,w,I,hd,e=>wp_ret (hQ .ret D a w e hd I)
 | .loop c,K,Q,hT,hQ,D,a,w,I,hd,e=>by
  simp only [dU] at e
  refine wp_loop_rounds n ?_
  have key:∀ (m:Nat) {D:DSt} {a:Act} {w:World},Inv cx D [] a.tmps w→T a→nA (fun D K=>dU tab fns C h n c D fun e D'=>K e (Am.canon h c e D')) m (erD D) K=some r→Code.rounds P c Q m a w:=by
   intro m
   induction m with
   | zero=>intro D a w I hd e;cases e
   | succ m ih =>
    intro D a w I hd e
    simp only [nA] at e
    rw [rounds_succ]
    refine ir ok hf hC c hT (fun e' D' a' w' h1 h2 h3 => ?_) I hd e
    rw [← F6] at h1
    have h3':=h3.canon h c e'
    cases e' with
    | normal=>exact ih h3' h2 h1
    | _=>exact hQ _ _ a' w' h1 h2 h3'
  rw [← xE] at e
  exact key n (I.atHead h c) hd e
 | .rangeFunc ..,K,Q,hT,hQ,D,a,w,I,hd,e=>by cases e
 | .scope _,K,Q,hT,hQ,D,a,w,I,hd,e=>by cases e
 | .label _,K,Q,hT,hQ,D,a,w,I,hd,e=>by cases e
 | .goto _,K,Q,hT,hQ,D,a,w,I,hd,e=>by cases e
 | .refuse _,K,Q,hT,hQ,D,a,w,I,hd,e=>by cases e
end Go.Proofs.YtgaiiephdjllkaaGreatDoor.Am
namespace Go.Proofs.YtgaiiephdjllkaaGreatDoor.Am
set_option linter.unusedVariables false
set_option linter.unusedSimpArgs false
open Go
section
variable {δ β : Type}
def resOne (M:Mk δ β) (tab:Tab) (D:St δ β):ResultVar→Option (Bool×List (T δ)×Nat)
 | .tmp t =>
  match D[t]? with
  | some (.one u)=>some (false,[u],t)
  | some (.agg ts)=>some (true,ts,t)
  | some (.al h c st lo len) =>
   if lo=0∨0<len then
    match am D h c with
    | some u=>if u.isOwn then match getN u st with | some (.s .own d z rows)=>some (false,[.s .own (M.win d lo z) z ((rows.drop lo).take len)],h) | _=>none else none
    | none=>none
   else none
  | _=>none
 | .cell a t =>
  match D[a]?,tab.ti t with
  | some (.box _ ts),some ti=>if ts.length=ti.size∧ti.sh ≠ .other∧(ti.sh.agg=false→ts.length=1) then some (ti.sh.agg,ts,a) else none
  | _,_=>none
def resL (M:Mk δ β) (tab:Tab) (D:St δ β):List ResultVar→Option (List (Bool×List (T δ)×Nat))
 | []=>some []
 | r::rs=>(resOne M tab D r).bind fun x=>(resL M tab D rs).map fun xs=>x::xs
def ownAny (r:Bool×List (T δ)×Nat):Bool:=r.2.1.any T.isOwn
end
abbrev erT (r:Bool×List DT×Nat):Bool×List (T Unit)×Nat:=(r.1,erL r.2.1,r.2.2)
theorem EW (tab:Tab) (D:DSt) (r:ResultVar):resOne mkU tab (erD D) r=(resOne mkD tab D r).map erT:=by
 cases r with
 | tmp t =>
  simp only [resOne,bE]
  cases D[t]? with
  | none=>rfl
  | some s =>
   cases s with
   | al h c st lo len =>
    simp only [Option.map_some,Sl.er]
    split
    ·rw [hU]
     cases am D h c with
     | none=>rfl
     | some u =>
      simp only [Option.map_some,cu]
      split
      ·rw [pP]
       cases getN u st with
       | none=>rfl
       | some n =>
        cases n with
        | s k d z rows =>
         cases k with
         | own=>simp only [Option.map_some,au,erT];rw [← zK];rfl
         | _=>simp [au]
        | _=>rfl
      ·rfl
    ·rfl
   | _=>rfl
 | cell a t =>
  simp only [resOne,bE]
  cases D[a]? with
  | none=>rfl
  | some s =>
   cases s with
   | box b ts =>
    cases tab.ti t with
    | none=>rfl
    | some ti=>simp only [Option.map_some,Sl.er,List.length_map];split<;>rfl
   | _=>rfl
theorem CH (tab:Tab) (D:DSt):∀ rs,resL mkU tab (erD D) rs=(resL mkD tab D rs).map (List.map erT)
 | []=>rfl
 | r::rs=>by
  simp only [resL,EW,CH tab D rs]
  cases resOne mkD tab D r with
  | none=>rfl
  | some x =>
   simp only [Option.map_some,Option.bind_some]
   cases resL mkD tab D rs<;>rfl
theorem GY (f:DT→Bool) (g:T Unit→Bool) (h:∀ t,g t.er=f t) (ts:List DT):(erL ts).any g=ts.any f:=by
 simp only [erL,List.any_map];congr 1;funext t;exact h t
def bw {δ β:Type}:Nat→List (Sl δ β)→List (Nat×HK)
 | _,[]=>[]
 | k,a::as=>match ch a with | some q=>(k,q)::bw (k+1) as | none=>bw (k+1) as
section
variable {δ β : Type}
def qh (D:St δ β) (p:Nat×HK):Option (Bool×List (T δ)) :=
 match p.2,D[p.1]? with
 | .box,some (.box _ ts)=>some (true,ts)
 | .one,some (.one u)=>some (false,[u])
 | .one,some .any=>some (false,[.any])
 | .agg,some (.agg ts)=>some (true,ts)
 | _,_=>none
def kD (D:St δ β):List (Nat×HK)→Option (List (Bool×List (T δ)))
 | []=>some []
 | p::ps=>(qh D p).bind fun x=>(kD D ps).map fun xs=>x::xs
def ol (M:Mk δ β) (D:St δ β):List ResultVar→Option ((Bool×List (T δ))×Nat)
 | [.tmp t]=>(iI D (.tmp t)).bind fun h=>match D[h]? with | some (.box b ts)=>if ts.all T.fine=true∧0<ts.length then some ((false,[.s .own (M.ptr b) ts.length [ts],.any]),h) else none | _=>none
 | _=>none
def qE (M:Mk δ β) (tab:Tab) (D:St δ β) (hs:List (Nat×HK)) (rs:List ResultVar):Option (List (Bool×List (T δ))) :=
 match ol M D rs with
 | some (r,t)=>(kD D hs).bind fun os=>if (os.all fun r=>r.2.all T.fine)=true∧(hs.map (·.1)++[t]).Nodup then some (os++[r]) else none
 | none=>(kD D hs).bind fun os=>(resL M tab D rs).bind fun l =>
  if (os.all fun r=>r.2.all T.fine)=true∧(l.all fun r=>r.2.1.all T.fine)=true∧(hs.map (·.1)++(l.filter ownAny).map (·.2.2)).Nodup then some (os++l.map fun r=>(r.1,r.2.1)) else none
end
theorem G5 (s:DSl):ch s.er=ch s:=by
 cases s with
 | one u=>simp only [Sl.er,ch,cu]
 | agg ts =>
  simp only [Sl.er,ch]
  rw [show (List.map T.er ts).any T.isOwn=ts.any T.isOwn by rw [List.any_map];congr 1;funext t;exact cu t]
 | _=>rfl
theorem vq:∀ (k:Nat) (ad:List DSl),bw k (ad.map Sl.er)=bw k ad
 | _,[]=>rfl
 | k,a::as=>by
  simp only [List.map_cons,bw,G5,vq (k+1) as]
theorem ET (D:DSt) (p:Nat×HK):qh (erD D) p=(qh D p).map fun r=>(r.1,erL r.2):=by
 obtain ⟨i,k⟩:=p
 simp only [qh,bE]
 cases D[i]? with
 | none=>cases k<;>rfl
 | some s=>cases s<;>cases k<;>rfl
theorem zH (D:DSt):∀ ps,kD (erD D) ps=(kD D ps).map erR
 | []=>rfl
 | p::ps=>by
  simp only [kD,ET,zH D ps]
  cases qh D p with
  | none=>rfl
  | some x =>
   simp only [Option.map_some,Option.bind_some]
   cases kD D ps<;>rfl
def sg {δ β:Type} (M:Mk δ β) (tab:Tab) (D:St δ β) (hs:List (Nat×HK)) (rs:List ResultVar):Option (List (Bool×List (T δ))) :=
 if (hs.all fun p=>match p.2 with | .one=>true | _=>false)=true then (qE M tab D [] rs).map fun r=>hs.map (fun _=>(false,[.any]))++r else none
theorem EV (D:DSt) (rs:List ResultVar):ol mkU (erD D) rs=(ol mkD D rs).map fun p=>((p.1.1,erL p.1.2),p.2):=by
 unfold ol
 split
 ·rename_i t
  rw [qJ]
  cases iI D (.tmp t) with
  | none=>rfl
  | some h =>
  simp only [Option.bind_some]
  rw [bE]
  cases D[h]? with
  | none=>rfl
  | some s =>
   cases s with
   | box b ts =>
    simp only [Option.map_some,Sl.er]
    rw [show (List.map T.er ts).all T.fine=ts.all T.fine from fL T.fine T.fine l6 ts,List.length_map]
    split
    ·simp only [Option.map_some,erL,List.map_cons,List.map_nil,au];rfl
    ·rfl
   | _=>rfl
 ·rfl
theorem CE (tab:Tab) (D:DSt) (hs:List (Nat×HK)) (rs:List ResultVar):qE mkU tab (erD D) hs rs=(qE mkD tab D hs rs).map erR:=by
 unfold qE
 rw [zH,CH,EV]
 have h0:∀ os:cS,((erR os).all fun r=>r.2.all T.fine)=(os.all fun r=>r.2.all T.fine):=by
  intro os
  unfold erR
  rw [List.all_map]
  congr 1;funext r
  exact fL T.fine T.fine l6 r.2
 cases hpr:ol mkD D rs with
 | some p =>
  obtain ⟨r,t⟩:=p
  simp only [Option.map_some]
  cases kD D hs with
  | none=>rfl
  | some os =>
   simp only [Option.map_some,Option.bind_some,h0]
   split
   ·simp only [Option.map_some,qG]
    rfl
   ·rfl
 | none =>
 simp only [Option.map_none]
 cases kD D hs with
 | none=>rfl
 | some os =>
  simp only [Option.map_some,Option.bind_some]
  cases resL mkD tab D rs with
  | none=>rfl
  | some l =>
   simp only [Option.map_some,Option.bind_some]
   have h0:((erR os).all fun r=>r.2.all T.fine)=(os.all fun r=>r.2.all T.fine):=by
    unfold erR
    rw [List.all_map]
    congr 1;funext r
    exact fL T.fine T.fine l6 r.2
   have h1:((l.map erT).all fun r=>r.2.1.all T.fine)=(l.all fun r=>r.2.1.all T.fine):=by
    rw [List.all_map]
    congr 1;funext r
    exact fL T.fine T.fine l6 r.2.1
   have h2:((l.map erT).filter ownAny).map (·.2.2)=(l.filter ownAny).map (·.2.2):=by
    rw [List.filter_map,List.map_map]
    have:(ownAny ∘ erT:Bool×List DT×Nat→Bool)=ownAny:=by
     funext r;exact GY T.isOwn T.isOwn cu r.2.1
    rw [this];rfl
   rw [h0,h1,h2]
   split
   ·simp only [Option.map_some,qG]
    congr 2
    unfold erR
    rw [List.map_map,List.map_map];rfl
   ·rfl
theorem G4 (tab:Tab) (D:DSt) (hs:List (Nat×HK)) (rs:List ResultVar):sg mkU tab (erD D) hs rs=(sg mkD tab D hs rs).map erR:=by
 unfold sg
 split
 ·rw [CE,Option.map_map,Option.map_map]
  congr 1
  funext r
  simp only [Function.comp,qG]
  congr 1
  unfold erR
  rw [List.map_map]
  rfl
 ·rfl
structure C3 (P:Program) (D:DSt) (tm:Array Value) (w:World) (r:ResultVar) (x:Bool×List DT×Nat) (y:Value):Prop where
 run:(match r with | .tmp t=>(pure (tm.getD t undef):Sem Value) | .cell a t=>do loadVar t (← asAddr (tm.getD a undef))).run P w = .ok y w
 part:VPart (x.1,x.2.1) y
 holds:∀ t∈x.2.1,Holds w t
 own:∀ t∈x.2.1,t.isOwn=true→OwnT w t
 home:∃ s,D[x.2.2]?=some s∧∀ b,(x.2.1.flatMap ownR).count b≤(ownBl s).count b
theorem Inv.resOne {P:Program} {tab:Tab} (ok:a8 P tab) {cx:Cx} {D:DSt} {tm:Array Value} {w:World} (I:Inv cx D [] tm w) {r:ResultVar} {x:Bool×List DT×Nat}
  (e:resOne mkD tab D r=some x):∃ y,C3 P D tm w r x y:=by
 cases r with
 | tmp t =>
  simp only [Am.resOne] at e
  split at e
  ·rename_i u h
   cases e
   have hv:=I.val t _ h
   have hm:=I.mem _ (List.mem_of_getElem? h)
   exact ⟨_,⟨rfl,⟨u,rfl,hv⟩,fun v hv'=>hm.1 v (by simpa [ai] using hv'),fun v hv'=>hm.2.1 v (by simpa [rootsO] using hv'),_,h,fun b=>by simp [ownBl]⟩⟩
  ·rename_i ts h
   cases e
   have hv:=I.val t _ h
   have hm:=I.mem _ (List.mem_of_getElem? h)
   exact ⟨_,⟨rfl,hv,hm.1,hm.2.1,_,h,fun b=>Nat.le_refl _⟩⟩
  ·rename_i h c st lo len hD
   split at e
   case isFalse=>cases e
   rename_i hcond
   split at e
   case h_2=>cases e
   rename_i u hu
   split at e
   case isFalse=>cases e
   rename_i ho
   split at e
   case h_2=>cases e
   rename_i d z rows hg
   cases e
   have hv:=I.val t _ hD
   obtain ⟨d',z',n,ad,⟨t1,q1,q2,k2,rows2,q3,q4⟩,hle,hy,ha,ha0⟩:=hv
   rw [hu] at q1;cases q1
   rw [hg] at q3;cases q3
   obtain ⟨s,hs,hsm,hr,hr',hsub⟩:=bD hu
   have hm:=I.mem s hsm
   have g5:=Holds.getN st (hm.1 u hr) hg
   have g6:=OwnT.getN st (hm.2.1 u hr' ho) hg
   refine ⟨_,⟨rfl,⟨_,rfl,?_⟩,fun v hv' => ?_,fun v hv' _ => ?_,s,hs,fun b => ?_⟩⟩
   ·rw [hy]
    exact vg (by omega) g5.cap g6.sp rfl ha ha0 g5.nilrows hcond
   ·simp at hv';subst hv';exact g5.win lo len (by omega)
   ·simp at hv';subst hv';exact g6.win lo len (by omega)
   ·have h1:=nN (k := .own) (k' := .own) (d:=d) (z:=z) rows lo len b
    have h2:=fW st hg b
    have h3:(bl u).count b≤(ownBl s).count b:=by
     unfold am at hu
     simp only [Option.bind_eq_some_iff] at hu
     obtain ⟨cs,⟨s',hs',hcs⟩,ht⟩:=hu
     rw [hs] at hs';cases hs'
     have h4:=lO hcs b
     have h5:=bj ownR (T.any:DT) b cs c u ht
     have h6:(ownR (T.any:DT)).count b=0:=rfl
     have h7:ownR u=bl u:=by simp [ownR,ho]
     rw [h7] at h5
     omega
    simp only [List.flatMap_cons,List.flatMap_nil,List.append_nil,ownR,T.isOwn,if_true]
    omega
  ·cases e
 | cell a t =>
  simp only [Am.resOne] at e
  split at e
  ·rename_i b ts ti hD hti
   split at e
   case isFalse=>cases e
   rename_i hc
   cases e
   have hv:=I.val a _ hD
   have hm:=I.mem _ (List.mem_of_getElem? hD)
   have C:Cells w b.1 b.2 ts:=⟨hm.2.2.1,hm.1⟩
   obtain ⟨y,h1,h2⟩:=C.load (Tab.ok ok hti) hc.2.1 hc.1 hc.2.2
   have hy:tm.getD a undef = .pointer (some ⟨b.1,b.2,none⟩):=hv
   refine ⟨y,⟨?_,?_,hm.1,hm.2.1,_,hD,fun x => ?_⟩⟩
   ·show ((do loadVar t (← asAddr (tm.getD a undef))):Sem Value).run P w=_
    rw [hy]
    exact h1
   ·unfold VPart
    simp only
    split at h2
    ·rename_i ha;rw [if_pos ha];exact h2
    ·rename_i ha;rw [if_neg ha];exact h2
   ·simp only [ownBl,List.count_cons];omega
  ·cases e
end Go.Proofs.YtgaiiephdjllkaaGreatDoor.Am
namespace Go.Proofs.YtgaiiephdjllkaaGreatDoor.Am
set_option linter.unusedVariables false
set_option linter.unusedSimpArgs false
open Go
def s9 (tm:Array Value):ResultVar→Sem Value
 | .tmp t=>pure (tm.getD t undef)
 | .cell a t=>do loadVar t (← asAddr (tm.getD a undef))
theorem Inv.resL {P:Program} {tab:Tab} (ok:a8 P tab) {cx:Cx} {D:DSt} {tm:Array Value} {w:World} (I:Inv cx D [] tm w):∀ {rs:List ResultVar} {l:List (Bool×List DT×Nat)},
  resL mkD tab D rs=some l→∃ ys:List Value,ys.length=l.length∧(rs.mapM (s9 tm)).run P w = .ok ys w∧∀ (i:Nat) (x:Bool×List DT×Nat) (y:Value),l[i]?=some x→ys[i]?=some y→∃ r,C3 P D tm w r x y
 | [],l,e=>by cases e;exact ⟨[],rfl,by simp,fun i x y h=>by simp at h⟩
 | r::rs,l,e=>by
  simp only [Am.resL,Option.bind_eq_some_iff,Option.map_eq_some_iff] at e
  obtain ⟨x,h1,xs,h2,rfl⟩:=e
  obtain ⟨y,hy⟩:=I.resOne ok h1
  obtain ⟨ys,g1,g2,g3⟩:=Inv.resL ok I h2
  refine ⟨y::ys,by simp [g1],?_,fun i x' y' hi hy' => ?_⟩
  ·have hr:(s9 tm r).run P w = .ok y w:=by
    have:=hy.run
    cases r<;>exact this
   simp [List.mapM_cons,hr,g2]
  ·cases i with
   | zero=>simp at hi hy';subst hi;subst hy';exact ⟨r,hy⟩
   | succ i=>simp at hi hy';exact g3 i x' y' hi hy'
def ta:List Value→Value
 | [y]=>y
 | ys => .tuple ys.toArray
theorem up {P:Program} (fn:Func) (tm:Array Value) (w:World) {ys:List Value} (h:(fn.results.toList.mapM (s9 tm)).run P w = .ok ys w) :
  (results fn tm).run P w = .ok (ta ys) w:=by
 have e:results fn tm=(do let vs ← fn.results.mapM (s9 tm);pure (if h:vs.size=1 then vs[0] else .tuple vs)):=by
  unfold results
  congr 1
 rw [e,Array.mapM_eq_mapM_toList]
 simp only [Sem.run_bind,Sem.run_map,h]
 match ys with
 | []=>simp [ta]
 | [y]=>simp [ta]
 | y::y'::ys=>simp [ta]
theorem xe:∀ (l:List (List Nat×Nat)) (D:DSt),(l.map (·.2)).Nodup→(∀ x∈l,∃ s,D[x.2]?=some s∧∀ b,x.1.count b≤(ownBl s).count b)→∀ b,(l.flatMap (·.1)).count b≤aZ D b
 | [],D,_,_,b=>by simp
 | x::l,D,hn,h,b=>by
  rw [List.map_cons,List.nodup_cons] at hn
  obtain ⟨hn1,hn2⟩:=hn
  obtain ⟨s,hs,hc⟩:=h x (by simp)
  have h1:=bj ownBl (Sl.any:DSl) b D x.2 s hs
  have h0:(ownBl (Sl.any:DSl)).count b=0:=rfl
  have h2:=xe l (D.set x.2 .any) hn2 (fun y hy=>by
   obtain ⟨s',hs',hc'⟩:=h y (by simp [hy])
   have hne:x.2≠y.2:=fun e=>hn1 (by rw [e];exact List.mem_map.2 ⟨y,hy,rfl⟩)
   exact ⟨s',by rw [List.getElem?_set_ne hne];exact hs',hc'⟩) b
  have h3:=hc b
  rw [List.flatMap_cons,List.count_append]
  unfold aZ at *
  omega
theorem D7 (l:List (Bool×List DT×Nat)):(l.flatMap fun r=>r.2.1.flatMap ownR)=((l.filter ownAny).flatMap fun r=>r.2.1.flatMap ownR):=by
 induction l with
 | nil=>rfl
 | cons y l' ih =>
  by_cases hy:ownAny y=true
  ·rw [List.filter_cons_of_pos hy,List.flatMap_cons,List.flatMap_cons,ih]
  ·rw [List.filter_cons_of_neg hy,List.flatMap_cons,ih]
   have:y.2.1.flatMap ownR=[]:=by
    rw [List.flatMap_eq_nil_iff]
    intro t ht
    refine dI ?_
    cases ho:t.isOwn with
    | false=>rfl
    | true=>exact absurd (by unfold ownAny;rw [List.any_eq_true];exact ⟨t,ht,ho⟩) hy
   rw [this];rfl
theorem xc {cx:Cx} {D:DSt} {tm:Array Value} {w:World} (I:Inv cx D [] tm w) {w0:World} {X:List Nat}:∀ (ad:List DSl) (vs:List Value) (k:Nat) {os:cS},ad.length=vs.length →
  (∀ (i:Nat) (a:DSl) (y:Value),ad[i]?=some a→vs[i]?=some y→AOk w0 X a y)→kD D (bw k ad)=some os →
  (∀ (i:Nat) (a:DSl) (y:Value),ad[i]?=some a→vs[i]?=some y→(ch a).isSome=true→tm.getD (k+i) undef=y) →
  OutsOk w ad vs os∧(∀ r∈os,∃ s∈D,∀ t∈r.2,t = .any∨t∈rootsO s∧t∈ai s)∧(∀ p∈bw k ad,p.1<D.length) ∧
   ∀ b,(ba os).count b+(ad.flatMap ca).count b≤(((bw k ad).map fun p=>(ownBl (D[p.1]?.getD .any),p.1)).flatMap (·.1)).count b
 | [],vs,k,os,_,_,e,_=>by
  cases e
  refine ⟨?_,fun r h=>(by cases h),fun p h=>(by cases h),fun b=>by simp [ba]⟩
  cases vs<;>exact rfl
 | a::as,[],k,os,hl,_,_,_=>by simp at hl
 | a::as,y::ys,k,os,hl,hA,e,hT=>by
  have ih:=fun {os}=>xc I (w0:=w0) (X:=X) as ys (k+1) (os:=os) (by simpa using hl) (fun i a' y' h1 h2=>hA (i+1) a' y' (by simpa using h1) (by simpa using h2))
  have hT':∀ (i:Nat) (a:DSl) (y:Value),as[i]?=some a→ys[i]?=some y→(ch a).isSome=true→tm.getD (k+1+i) undef=y:=fun i a' y' h1 h2 h3=>by
   rw [show k+1+i=k+(i+1) by omega]
   exact hT (i+1) a' y' (by simpa using h1) (by simpa using h2) h3
  unfold bw at e ⊢
  cases hk:ch a with
  | none =>
   rw [hk] at e
   obtain ⟨i1,i2,i3,i4⟩:=ih e hT'
   have hb:ca a=[]:=by cases a<;>first | rfl | cases hk
   refine ⟨?_,i2,i3,fun b => ?_⟩
   ·unfold OutsOk;rw [hk];exact i1
   ·rw [List.flatMap_cons,hb,List.nil_append];exact i4 b
  | some q =>
   rw [hk] at e
   simp only [kD,Option.bind_eq_some_iff,Option.map_eq_some_iff] at e
   obtain ⟨o,e1,os',e2,rfl⟩:=e
   obtain ⟨i1,i2,i3,i4⟩:=ih e2 hT'
   have hy:tm.getD k undef=y:=hT 0 a y rfl rfl (by rw [hk];rfl)
   have hAk:=hA 0 a y rfl rfl
   have key:u7 w a y o∧∃ s,D[k]?=some s∧(∀ t∈o.2,t = .any∨t∈rootsO s∧t∈ai s)∧∀ b,(o.2.flatMap ownR).count b+(ca a).count b≤(ownBl s).count b:=by
    unfold qh at e1
    split at e1
    ·rename_i b' ts' hq hD
     cases e1
     have hb:∃ b ts,a = .box b ts:=Gn (by rw [hk];exact congrArg some hq)
     obtain ⟨b,ts,rfl⟩:=hb
     have v1:y = .pointer (some ⟨b.1,b.2,none⟩):=hAk.val D
     have v2:tm.getD k undef = .pointer (some ⟨b'.1,b'.2,none⟩):=I.val k _ hD
     rw [hy,v1] at v2
     simp only [Value.pointer.injEq,Option.some.injEq,Addr.mk.injEq] at v2
     have hbb:b'=b:=by obtain ⟨p1,p2⟩:=b;obtain ⟨p3,p4⟩:=b';simp at v2;simp [v2.1,v2.2]
     subst hbb
     have hm:=I.mem _ (List.mem_of_getElem? hD)
     exact ⟨⟨rfl,hm.2.2.1,hm.2.2.2⟩,_,hD,fun t ht => .inr ⟨ht,ht⟩,fun x=>by simp only [ownBl,ca,List.count_cons,List.count_nil];omega⟩
    ·rename_i u hq hD
     cases e1
     have hb:∃ u,a = .one u:=uG (by rw [hk];exact congrArg some hq)
     obtain ⟨u0,rfl⟩:=hb
     have v2:=I.val k _ hD
     rw [hy] at v2
     exact ⟨⟨⟨u,rfl,v2⟩,rfl⟩,_,hD,fun t ht => .inr ⟨by simpa [rootsO] using ht,by simpa [ai] using ht⟩,fun x=>by simp [ownBl,ca]⟩
    ·rename_i hq hD
     cases e1
     have hb:∃ u,a = .one u:=uG (by rw [hk];exact congrArg some hq)
     obtain ⟨u0,rfl⟩:=hb
     have v1:VT u0 y:=hAk.val D
     exact ⟨⟨⟨.any,rfl,v1.one⟩,rfl⟩,_,hD,fun t ht => .inl (by simpa using ht),fun x=>by simp [ownBl,ca,ownR,T.isOwn]⟩
    ·rename_i ts hq hD
     cases e1
     have hb:∃ u,a = .agg u:=Gm (by rw [hk];exact congrArg some hq)
     obtain ⟨u0,rfl⟩:=hb
     have v2:=I.val k _ hD
     rw [hy] at v2
     exact ⟨⟨v2,rfl⟩,_,hD,fun t ht => .inr ⟨ht,ht⟩,fun x=>by simp [ownBl,ca]⟩
    ·cases e1
   obtain ⟨k1,s,k2,k3,k4⟩:=key
   refine ⟨?_,fun r hr => ?_,fun p hp => ?_,fun b => ?_⟩
   ·unfold OutsOk;rw [hk];exact ⟨o,os',rfl,k1,i1⟩
   ·rcases List.mem_cons.1 hr with rfl | hr
    ·exact ⟨s,List.mem_of_getElem? k2,k3⟩
    ·exact i2 r hr
   ·rcases List.mem_cons.1 hp with rfl | hp
    ·exact dq k2
    ·exact i3 p hp
   ·have h1:=k4 b
    have h2:=i4 b
    simp only [ba,List.flatMap_cons,List.map_cons,List.count_append,k2,Option.getD_some] at *
    omega
theorem Gi {w:World} {t:DT} (h:t.fine=true) (ho:t.isOwn=true→OwnT w t):OwnT w t:=by
 cases t with
 | v x=>exact .v x
 | any=>exact .any
 | s k d z r=>cases k<;>first | exact ho rfl | cases h
theorem Inv.endPtr {P:Program} {D:DSt} {tm:Array Value} {w0 w:World} {X:List Nat} (I:Inv ⟨w0,X⟩ D [] tm w) {ad:List DSl} {vs:List Value} (hA:ArgsOk w0 X ad vs)
  (hT:∀ (i:Nat) (a:DSl) (y:Value),ad[i]?=some a→vs[i]?=some y→(ch a).isSome=true→tm.getD i undef=y) {fn:Func} {r:Bool×List DT} {t:Nat}
  (hpr:ol mkD D fn.results.toList=some (r,t)) {os:cS} (h0:kD D (bw 0 ad)=some os) (hfo:(os.all fun r=>r.2.all T.fine)=true) (hnd:((bw 0 ad).map (·.1)++[t]).Nodup) :
  ∃ v od rd,os++[r]=od++rd∧(results fn tm).run P w = .ok v w∧OutsOk w ad vs od∧RetOk w0 X w (ad.flatMap ca) od rd v:=by
 unfold ol at hpr
 split at hpr
 case h_2=>cases hpr
 rename_i t' hrs
 rw [Option.bind_eq_some_iff] at hpr
 obtain ⟨h',hch,hpr⟩:=hpr
 split at hpr
 case h_2=>cases hpr
 rename_i b ts hD
 split at hpr
 case isFalse=>cases hpr
 rename_i hc
 cases hpr
 obtain ⟨hfine,hpos⟩:=hc
 have hfine':∀ u∈ts,u.fine=true:=fun u hu=>List.all_eq_true.1 hfine u hu
 obtain ⟨o1,o2,o3,o4⟩:=xc I ad vs 0 hA.1 hA.2.1 h0 (fun i a y q1 q2 q3=>by rw [Nat.zero_add];exact hT i a y q1 q2 q3)
 have hm:=I.mem _ (List.mem_of_getElem? hD)
 have hv:tm.getD t' undef = .pointer (some ⟨b.1,b.2,none⟩):=by
  unfold iI at hch
  simp only at hch
  split at hch
  ·rename_i b' ts' hb
   cases hch
   rw [hD] at hb
   cases hb
   exact I.val _ _ hD
  ·rename_i h2 hb
   cases hch
   obtain ⟨b',ts',k1,k2⟩:=I.val _ _ hb
   rw [hD] at k1
   cases k1
   exact k2
  ·cases hch
 have hrun:(results fn tm).run P w = .ok (ta [tm.getD t' undef]) w:=up fn tm w (by rw [hrs];simp [List.mapM_cons,s9])
 obtain ⟨hm1,hm2,⟨c,e,f,l1,l2⟩,hfr⟩:=hm
 have hsz:b.2+ts.length≤c.size:=by
  have hlt:ts.length-1<ts.length:=by omega
  obtain ⟨y,hy,_⟩:=l2 (ts.length-1) ts[ts.length-1] (List.getElem?_eq_getElem hlt)
  rcases Nat.lt_or_ge (b.2+(ts.length-1)) c.size with g | g
  ·omega
  ·rw [Array.getElem?_eq_none g] at hy;cases hy
 have row0:∀ (i:Nat) (row:List DT),([ts]:List (List DT))[i]?=some row→i=0∧row=ts:=by
  intro i row h
  cases i with
  | zero=>simp at h;exact ⟨rfl,h.symm⟩
  | succ i=>simp at h
 have hHold:Holds w (.s .own (mkD.ptr b) ts.length [ts]):=by
  refine .s _ _ _ _ rfl rfl c e f l1 (by simp [mkD]) (fun i row h=>by rw [(row0 i row h).2]) (fun i row j u h1 h2 => ?_) fun i row j u h1 h2 => ?_
  ·obtain ⟨rfl,rfl⟩:=row0 i row h1
   simpa [mkD] using l2 j u h2
  ·obtain ⟨rfl,rfl⟩:=row0 i row h1
   exact hm1 u (List.mem_of_getElem? h2)
 have hOwn:OwnT w (.s .own (mkD.ptr b) ts.length [ts]):=by
  obtain ⟨lo,hi⟩:=f
  refine .s _ _ _ rfl rfl c e lo hi l1 (by simp [mkD]) (by simpa [mkD] using hsz) (fun x h1 h2=>hfr c e lo hi l1 x h1 (by simpa [mkD] using h2)) fun i row j u h1 h2 => ?_
  obtain ⟨rfl,rfl⟩:=row0 i row h1
  have hu:=List.mem_of_getElem? h2
  exact Gi (hfine' u hu) (hm2 u hu)
 have hbl:ba ([(false,[.s .own (mkD.ptr b) ts.length [ts],.any])]:cS)=ownBl (.box b ts):=by
  simp only [ba,ownBl,List.flatMap_cons,List.flatMap_nil,List.append_nil,ownR,T.isOwn,if_true,bW,mkD]
  simp [← wM hfine']
 have hsum:=xe (((bw 0 ad).map fun p=>(ownBl (D[p.1]?.getD .any),p.1))++[(ownBl (.box b ts),t)]) D
  (by rw [List.map_append,List.map_map];exact hnd) (fun x hx=>by
   rcases List.mem_append.1 hx with hx | hx
   ·obtain ⟨p,hp,rfl⟩:=List.mem_map.1 hx
    have:=o3 p hp
    exact ⟨D[p.1],List.getElem?_eq_getElem this,fun b=>by rw [List.getElem?_eq_getElem this];exact Nat.le_refl _⟩
   ·rw [List.mem_singleton] at hx;subst hx
    exact ⟨_,hD,fun b=>Nat.le_refl _⟩)
 have htot:∀ x,(ba (os++[(false,[.s .own (mkD.ptr b) ts.length [ts],.any])])).count x+(ad.flatMap ca).count x≤aZ D x:=by
  intro x
  have q1:=hsum x
  have q2:=o4 x
  rw [List.flatMap_append,List.count_append] at q1
  rw [jo,List.count_append,hbl]
  simp only [List.flatMap_cons,List.flatMap_nil,List.append_nil] at q1
  omega
 refine ⟨_,os,_,rfl,hrun,o1,⟨.inr (.inr ⟨_,_,_,rfl,hv⟩),?_,?_,?_,?_,?_⟩⟩
 ·intro r hr u hu
  rcases List.mem_append.1 hr with hr | hr
  ·exact List.all_eq_true.1 (List.all_eq_true.1 hfo r hr) u hu
  ·rw [List.mem_singleton] at hr;subst hr
   simp only [List.mem_cons,List.not_mem_nil,or_false] at hu
   rcases hu with rfl | rfl<;>rfl
 ·intro r hr u hu
  rcases List.mem_append.1 hr with hr | hr
  ·obtain ⟨s,q1,q2⟩:=o2 r hr
   exact (q2 u hu).elim (fun e=>by subst e;exact .any) fun q=>(I.mem s q1).1 u q.2
  ·rw [List.mem_singleton] at hr;subst hr
   simp only [List.mem_cons,List.not_mem_nil,or_false] at hu
   rcases hu with rfl | rfl
   ·exact hHold
   ·exact .any
 ·intro r hr u hu ho
  rcases List.mem_append.1 hr with hr | hr
  ·obtain ⟨s,q1,q2⟩:=o2 r hr
   exact (q2 u hu).elim (fun e=>by subst e;cases ho) fun q=>(I.mem s q1).2.1 u q.1 ho
  ·rw [List.mem_singleton] at hr;subst hr
   simp only [List.mem_cons,List.not_mem_nil,or_false] at hu
   rcases hu with rfl | rfl
   ·exact hOwn
   ·cases ho
 ·intro x
  have q1:=htot x
  have q2:=I.once x
  omega
 ·intro x hx
  have q1:=htot x
  have q3:0<aZ D x:=by
   have:=List.count_pos_iff.2 hx
   omega
  exact I.bnd x (by omega)
theorem Inv.ends {P:Program} {tab:Tab} (ok:a8 P tab) {D:DSt} {tm:Array Value} {w0 w:World} {X:List Nat} (I:Inv ⟨w0,X⟩ D [] tm w) {ad:List DSl} {vs:List Value} (hA:ArgsOk w0 X ad vs)
  (hT:∀ (i:Nat) (a:DSl) (y:Value),ad[i]?=some a→vs[i]?=some y→(ch a).isSome=true→tm.getD i undef=y) {fn:Func} {all:cS}
  (e:qE mkD tab D (bw 0 ad) fn.results.toList=some all):∃ v od rd,all=od++rd∧(results fn tm).run P w = .ok v w∧OutsOk w ad vs od∧RetOk w0 X w (ad.flatMap ca) od rd v:=by
 unfold qE at e
 split at e
 ·rename_i r t hpr
  rw [Option.bind_eq_some_iff] at e
  obtain ⟨os,h0,e⟩:=e
  split at e
  case isFalse=>cases e
  rename_i hc
  cases e
  exact I.endPtr hA hT hpr h0 hc.1 hc.2
 rw [Option.bind_eq_some_iff] at e
 obtain ⟨os,h0,e⟩:=e
 rw [Option.bind_eq_some_iff] at e
 obtain ⟨l,h1,e⟩:=e
 split at e
 case isFalse=>cases e
 rename_i hc
 cases e
 obtain ⟨hfo,hfine,hnd⟩:=hc
 obtain ⟨o1,o2,o3,o4⟩:=xc I ad vs 0 hA.1 hA.2.1 h0 (fun i a y q1 q2 q3=>by rw [Nat.zero_add];exact hT i a y q1 q2 q3)
 obtain ⟨ys,g1,g2,g3⟩:=I.resL ok h1
 have hget:∀ x∈l,∃ (i:Nat) (y:Value) (r:ResultVar),l[i]?=some x∧ys[i]?=some y∧C3 P D tm w r x y:=by
  intro x hx
  obtain ⟨i,hi⟩:=List.getElem?_of_mem hx
  have hlt:i<ys.length:=by
   rw [g1]
   exact dq hi
  obtain ⟨r,hr⟩:=g3 i x ys[i] hi (List.getElem?_eq_getElem hlt)
  exact ⟨i,ys[i],r,hi,List.getElem?_eq_getElem hlt,hr⟩
 have hmem:∀ r∈l.map (fun r=>(r.1,r.2.1)),∃ x∈l,r=(x.1,x.2.1):=fun r hr=>by
  obtain ⟨x,hx,rfl⟩:=List.mem_map.1 hr
  exact ⟨x,hx,rfl⟩
 have hflat:ba (l.map fun r=>(r.1,r.2.1))=l.flatMap fun r=>r.2.1.flatMap ownR:=by
  unfold ba
  rw [List.flatMap_map]
 have hsum:=xe (((bw 0 ad).map fun p=>(ownBl (D[p.1]?.getD .any),p.1))++(l.filter ownAny).map fun r=>(r.2.1.flatMap ownR,r.2.2)) D
  (by rw [List.map_append,List.map_map,List.map_map];exact hnd) (fun x hx=>by
   rcases List.mem_append.1 hx with hx | hx
   ·obtain ⟨p,hp,rfl⟩:=List.mem_map.1 hx
    have:=o3 p hp
    exact ⟨D[p.1],List.getElem?_eq_getElem this,fun b=>by rw [List.getElem?_eq_getElem this];exact Nat.le_refl _⟩
   ·obtain ⟨r,hr,rfl⟩:=List.mem_map.1 hx
    obtain ⟨i,y,r',_,_,hr'⟩:=hget r (List.mem_filter.1 hr).1
    exact hr'.home)
 have htot:∀ b,(ba (os++l.map fun r=>(r.1,r.2.1))).count b+(ad.flatMap ca).count b≤aZ D b:=by
  intro b
  have q1:=hsum b
  have q2:=o4 b
  rw [List.flatMap_append,List.count_append] at q1
  rw [jo,List.count_append,hflat,D7]
  have q3:((l.filter ownAny).map fun r=>(r.2.1.flatMap ownR,r.2.2)).flatMap (·.1)=(l.filter ownAny).flatMap fun r=>r.2.1.flatMap ownR:=by rw [List.flatMap_map]
  rw [q3] at q1
  omega
 refine ⟨_,os,_,rfl,up fn tm w g2,o1,⟨?_,?_,?_,?_,?_,?_⟩⟩
 ·have hp:∀ (i:Nat) (r:Bool×List DT) (y:Value),(l.map fun r=>(r.1,r.2.1))[i]?=some r→ys[i]?=some y→VPart r y:=by
   intro i r y hi hy
   rw [List.getElem?_map,Option.map_eq_some_iff] at hi
   obtain ⟨x,hx,rfl⟩:=hi
   obtain ⟨r',hr'⟩:=g3 i x y hx hy
   exact hr'.part
  match ys,l,g1,hp with
  | [y],[x],_,hp=>exact .inl ⟨_,rfl,hp 0 _ y rfl rfl⟩
  | [],[],_,hp=>exact .inr (.inl ⟨by simp,⟨#[],rfl,rfl,fun i r v h=>by simp at h⟩⟩)
  | y::y'::ys,x::x'::l,hl,hp =>
   refine .inr (.inl ⟨by simp,⟨(y::y'::ys).toArray,rfl,by simp at hl ⊢;omega,fun i r v hi hv=>hp i r v hi hv⟩⟩)
  | [],x::l,hl,_=>simp at hl
  | y::ys,[],hl,_=>simp at hl
  | [y],x::x'::l,hl,_=>simp at hl
  | y::y'::ys,[x],hl,_=>simp at hl
 ·intro r hr t ht
  rcases List.mem_append.1 hr with hr | hr
  ·exact List.all_eq_true.1 (List.all_eq_true.1 hfo r hr) t ht
  ·obtain ⟨x,hx,rfl⟩:=hmem r hr
   exact List.all_eq_true.1 (List.all_eq_true.1 hfine x hx) t ht
 ·intro r hr t ht
  rcases List.mem_append.1 hr with hr | hr
  ·obtain ⟨s,q1,q2⟩:=o2 r hr
   exact (q2 t ht).elim (fun e=>by subst e;exact .any) fun q=>(I.mem s q1).1 t q.2
  ·obtain ⟨x,hx,rfl⟩:=hmem r hr
   obtain ⟨i,y,r',_,_,hr'⟩:=hget x hx
   exact hr'.holds t ht
 ·intro r hr t ht ho
  rcases List.mem_append.1 hr with hr | hr
  ·obtain ⟨s,q1,q2⟩:=o2 r hr
   exact (q2 t ht).elim (fun e=>by subst e;cases ho) fun q=>(I.mem s q1).2.1 t q.1 ho
  ·obtain ⟨x,hx,rfl⟩:=hmem r hr
   obtain ⟨i,y,r',_,_,hr'⟩:=hget x hx
   exact hr'.own t ht ho
 ·intro b
  have q1:=htot b
  have q2:=I.once b
  omega
 ·intro b hb
  have q1:=htot b
  have q3:0<aZ D b:=by
   have:=List.count_pos_iff.2 hb
   omega
  exact I.bnd b (by omega)
theorem zR {w w0:World} {X:List Nat}:∀ (ad:List DSl) (vs:List Value) (k:Nat),ad.length=vs.length →
  (∀ (i:Nat) (a:DSl) (y:Value),ad[i]?=some a→vs[i]?=some y→AOk w0 X a y)→((bw k ad).all fun p=>match p.2 with | .one=>true | _=>false)=true →
  OutsOk w ad vs ((bw k ad).map fun _=>(false,[.any]))∧ad.flatMap ca=[]
 | [],vs,k,_,_,_=>by
  refine ⟨?_,rfl⟩
  cases vs<;>exact rfl
 | a::as,[],k,hl,_,_=>by simp at hl
 | a::as,y::ys,k,hl,hA,hh=>by
  have ih:=zR (w:=w) (w0:=w0) (X:=X) as ys (k+1) (by simpa using hl) fun i a' y' h1 h2=>hA (i+1) a' y' (by simpa using h1) (by simpa using h2)
  unfold bw at hh ⊢
  cases hk:ch a with
  | none =>
   rw [hk] at hh
   obtain ⟨i1,i2⟩:=ih hh
   have hb:ca a=[]:=by cases a<;>first | rfl | cases hk
   refine ⟨?_,by rw [List.flatMap_cons,hb,List.nil_append];exact i2⟩
   unfold OutsOk;rw [hk];exact i1
  | some q =>
   rw [hk] at hh
   simp only [List.all_cons,Bool.and_eq_true] at hh
   obtain ⟨i1,i2⟩:=ih hh.2
   have hq:q = .one:=by
    have:=hh.1
    cases q<;>first | rfl | cases this
   subst hq
   obtain ⟨u,rfl⟩:=uG hk
   have v1:VT u y:=(hA 0 _ y rfl rfl).val []
   refine ⟨?_,by rw [List.flatMap_cons];exact i2⟩
   unfold OutsOk
   rw [hk]
   exact ⟨_,_,rfl,⟨⟨.any,rfl,v1.one⟩,rfl⟩,i1⟩
theorem Inv.endsV {P:Program} {tab:Tab} (ok:a8 P tab) {D:DSt} {tm:Array Value} {w0 w:World} {X:List Nat} (I:Inv ⟨w0,X⟩ D [] tm w) {ad:List DSl} {vs:List Value} (hA:ArgsOk w0 X ad vs) {fn:Func} {all:cS}
  (e:sg mkD tab D (bw 0 ad) fn.results.toList=some all):∃ v od rd,all=od++rd∧(results fn tm).run P w = .ok v w∧OutsOk w ad vs od∧RetOk w0 X w (ad.flatMap ca) od rd v:=by
 unfold sg at e
 split at e
 case isFalse=>cases e
 rename_i hall
 rw [Option.map_eq_some_iff] at e
 obtain ⟨r,h1,rfl⟩:=e
 obtain ⟨v,od,rd,rfl,g1,g2,R⟩:=I.ends ok (ArgsOk.nil w0 X) (fun i a y h=>by simp at h) h1
 have:od=[]:=g2
 subst this
 obtain ⟨k1,k2⟩:=zR (w:=w) ad vs 0 hA.1 hA.2.1 hall
 refine ⟨v,_,rd,by rw [List.nil_append],g1,k1,?_⟩
 rw [k2]
 have hz:∀ (l:List (Nat×HK)),ba (l.map fun _=>((false,[T.any]):Bool×List DT))=[]:=by
  intro l
  unfold ba
  rw [List.flatMap_eq_nil_iff]
  intro r hr
  obtain ⟨_,_,rfl⟩:=List.mem_map.1 hr
  rfl
 have hr:∀ b,(ba ((bw 0 ad).map (fun _=>((false,[T.any]):Bool×List DT))++rd)).count b=(ba rd).count b:=by
  intro b
  rw [jo,hz,List.nil_append]
 have hm:∀ r∈(bw 0 ad).map (fun _=>((false,[T.any]):Bool×List DT))++rd,(∀ t∈r.2,t = .any)∨r∈[]++rd:=by
  intro r hr
  rcases List.mem_append.1 hr with hr | hr
  ·obtain ⟨_,_,rfl⟩:=List.mem_map.1 hr
   exact .inl fun t ht=>by simpa using ht
  ·exact .inr (by simpa using hr)
 refine ⟨R.val,fun r hr t ht => ?_,fun r hr t ht => ?_,fun r hr t ht ho => ?_,fun b => ?_,fun b hb => ?_⟩
 ·rcases hm r hr with q | q
  ·rw [q t ht];rfl
  ·exact R.fine r q t ht
 ·rcases hm r hr with q | q
  ·rw [q t ht];exact .any
  ·exact R.holds r q t ht
 ·rcases hm r hr with q | q
  ·rw [q t ht] at ho;cases ho
  ·exact R.own r q t ht ho
 ·rw [hr]
  have:=R.once b
  rw [List.nil_append] at this
  exact this
 ·refine R.new b ?_
  rw [List.nil_append]
  exact List.count_pos_iff.1 (by rw [← hr];exact List.count_pos_iff.2 hb)
end Go.Proofs.YtgaiiephdjllkaaGreatDoor.Am
namespace Go.Proofs.YtgaiiephdjllkaaGreatDoor.Am
set_option linter.unusedVariables false
set_option linter.unusedSimpArgs false
open Go
def GI (tab:Tab) (gv:Bool) (fn:Func) (hs:List (Nat×HK)):Exit→US→Option URes
 | .normal,D=>if gv=true then sg mkU tab D hs fn.results.toList else qE mkU tab D hs fn.results.toList
 | .ret,D=>if gv=true then sg mkU tab D hs fn.results.toList else qE mkU tab D hs fn.results.toList
 | _,_=>none
noncomputable def om (tab:Tab) (fns:FuncId→Option Func) (hints:FuncId→gz) (orc:Sem1→Sem1):Nat→Sem1
 | 0=>fun _ _=>none
 | k+1=>fun f as =>
  match orc (om tab fns hints orc k) f as with
  | some r=>some r
  | none =>
   match fns f with
   | some fn =>
    match fn.body with
    | some c=>if (tab.gv.contains f || Gk ((bw 0 as).map (·.1)) c)=true then dU tab fns (om tab fns hints orc k) (hints f) k c (as++List.replicate (fn.ntmps-as.length) .any) (GI tab (tab.gv.contains f) fn (bw 0 as)) else none
    | none=>none
   | none=>none
theorem Inv.enter {w:World} {X:List Nat} {ad:List DSl} {vs:List Value} (h:ArgsOk w X ad vs) (n:Nat):Inv ⟨w,X⟩ (ad++List.replicate n .any) [] (vs.toArray++Array.replicate n undef) w:=by
 obtain ⟨hl,ha,hone⟩:=h
 have hget:∀ s∈ad++List.replicate n (.any:DSl),s = .any∨∃ (i:Nat) (y:Value),ad[i]?=some s∧vs[i]?=some y∧AOk w X s y:=by
  intro s hs
  rcases List.mem_append.1 hs with hs | hs
  ·right
   obtain ⟨i,hi⟩:=List.getElem?_of_mem hs
   have hlt:i<vs.length:=by
    rw [← hl];exact dq hi
   exact ⟨i,vs[i],hi,List.getElem?_eq_getElem hlt,ha i s _ hi (List.getElem?_eq_getElem hlt)⟩
  ·left;exact List.eq_of_mem_replicate hs
 have hown:∀ b,aZ (ad++List.replicate n (.any:DSl)) b=(ad.flatMap ownBl).count b:=by
  intro b
  unfold aZ
  rw [List.flatMap_append,List.count_append]
  have:(List.replicate n (.any:DSl)).flatMap ownBl=[]:=by
   rw [List.flatMap_eq_nil_iff]
   intro s hs
   rw [List.eq_of_mem_replicate hs];rfl
  rw [this];rfl
 refine ⟨by simp [hl],fun t s hs => ?_,fun s hs => ?_,fun s hs => ?_,fun p hp=>(by cases hp),fun b=>by rw [hown,bZ];exact hone b,fun b hb => ?_,⟨rfl,rfl,rfl,Nat.le_refl _,fun b _=>rfl⟩⟩
 ·rcases Nat.lt_or_ge t ad.length with g | g
  ·rw [List.getElem?_append_left g] at hs
   have hlt:t<vs.length:=by omega
   have:=(ha t s vs[t] hs (List.getElem?_eq_getElem hlt)).val (ad++List.replicate n .any)
   have e:(vs.toArray++Array.replicate n undef).getD t undef=vs[t]:=by
    rw [Array.getD_eq_getD_getElem?,Array.getElem?_append_left (by simpa using hlt)]
    simp [hlt]
   rw [e];exact this
  ·rw [List.getElem?_append_right g] at hs
   have:=List.mem_of_getElem? hs
   rw [List.eq_of_mem_replicate this];trivial
 ·rcases hget s hs with rfl | ⟨i,y,_,_,h⟩
  ·exact ⟨fun u hu=>by simp [ai] at hu,fun u hu=>by simp [rootsO] at hu,trivial⟩
  ·exact h.mem
 ·rcases hget s hs with rfl | ⟨i,y,_,_,h⟩
  ·exact fun u hu=>by simp [ai] at hu
  ·exact h.kind _
 ·rw [hown,bZ,Nat.add_zero] at hb
  obtain ⟨s,hs,hb⟩:=List.mem_flatMap.1 (List.count_pos_iff.1 hb)
  rcases hget s (List.mem_append.2 (.inl hs)) with rfl | ⟨i,y,_,_,h⟩
  ·simp [ownBl] at hb
  ·have:=h.own b hb
   exact ⟨.inr this.1,this.2⟩
theorem ub:∀ (ad:List DSl) (k i:Nat) (a:DSl),ad[i]?=some a→(ch a).isSome=true→k+i∈(bw k ad).map (·.1)
 | [],k,i,a,h,_=>by simp at h
 | a::as,k,0,a',h,hk=>by
  simp at h;subst h
  unfold bw
  cases hq:ch a with
  | none=>rw [hq] at hk;cases hk
  | some q=>simp
 | a::as,k,i+1,a',h,hk=>by
  have:=ub as (k+1) i a' (by simpa using h) hk
  unfold bw
  rw [show k+(i+1)=k+1+i by omega]
  cases hq:ch a with
  | none=>exact this
  | some q=>exact List.mem_cons_of_mem _ this
theorem q9 {P:Program} {tab:Tab} (ok:a8 P tab) {fns:FuncId→Option Func} (hf:gG P fns) (hints:FuncId→gz) {orc:Sem1→Sem1} {B:Base} (ho:∀ C,CallsOk P B C→CallsOk P B (orc C)):∀ k,CallsOk P B (om tab fns hints orc k)
 | 0=>fun f as rs h=>by cases h
 | k+1=>fun f as rs h w X ad vs hB he hA=>by
  simp only [om] at h
  split at h
  ·rename_i r hr
   cases h
   exact ho _ (q9 ok hf hints ho k) f as _ hr w X ad vs hB he hA
  ·split at h
   case h_2=>cases h
   rename_i fn hfn
   split at h
   case h_2=>cases h
   rename_i c hc
   split at h
   case isFalse=>cases h
   rename_i hfix
   obtain ⟨p1,p2,p3⟩:=hf f fn hfn
   have hl:as.length=vs.length:=by rw [← he,List.length_map];exact hA.1
   have hh:bw 0 as=bw 0 ad:=by rw [← he,vq]
   have he':as++List.replicate (fn.ntmps-as.length) (.any:Sl Unit Unit)=erD (ad++List.replicate (fn.ntmps-vs.length) .any):=by
    rw [hl, ← he]
    simp [erD,Sl.er]
   rw [he',hh] at h
   rw [hh] at hfix
   refine calls_of_wp p1 hc ?_
   have I:=Inv.enter hA (fn.ntmps-vs.length)
   have hsz:vs.toArray.size=vs.length:=by simp
   have hT:∀ o∈nB c,∀ (a:Act) (y:Value),(a.defers=[]∧(tab.gv.contains f=false→∀ (i:Nat) (s:DSl) (v:Value),ad[i]?=some s→vs[i]?=some v→(ch s).isSome=true→a.tmps.getD i undef=v)) →
     ((a.put o.dst y).defers=[]∧(tab.gv.contains f=false→∀ (i:Nat) (s:DSl) (v:Value),ad[i]?=some s→vs[i]?=some v→(ch s).isSome=true→(a.put o.dst y).tmps.getD i undef=v)):=by
    rintro o ho a y ⟨t1,t2⟩
    refine ⟨by unfold Act.put;split<;>exact t1,fun hgv i s v q1 q2 q3 => ?_⟩
    rw [hgv,Bool.false_or] at hfix
    cases hd:o.dst with
    | none=>exact t2 hgv i s v q1 q2 q3
    | some t =>
     have hi:=ub ad 0 i s q1 q3
     rw [Nat.zero_add] at hi
     have hne:t≠i:=by
      rintro rfl
      unfold Gk at hfix
      rw [Bool.or_eq_true] at hfix
      rcases hfix with hfix | hfix
      ·rw [List.isEmpty_iff] at hfix
       rw [hfix] at hi;cases hi
      ·have:=List.all_eq_true.1 hfix o ho
       rw [hd] at this
       simp only [Bool.not_eq_true',List.contains_eq_mem,decide_eq_false_iff_not] at this
       exact this hi
     show (a.tmps.setIfInBounds t y).getD i undef=v
     rw [Array.getD_eq_getD_getElem?,Array.getElem?_setIfInBounds_ne hne, ← Array.getD_eq_getD_getElem?]
     exact t2 hgv i s v q1 q2 q3
   have hT0:∀ (i:Nat) (s:DSl) (v:Value),ad[i]?=some s→vs[i]?=some v→(ch s).isSome=true→(vs.toArray++Array.replicate (fn.ntmps-vs.toArray.size) undef).getD i undef=v:=by
    intro i s v _ q2 _
    have hlt:=dq q2
    rw [Array.getD_eq_getD_getElem?,Array.getElem?_append_left (by simpa using hlt)]
    simp [q2]
   refine ir (T:=fun a=>a.defers=[]∧(tab.gv.contains f=false→∀ (i:Nat) (s:DSl) (v:Value),ad[i]?=some s→vs[i]?=some v→(ch s).isSome=true→a.tmps.getD i undef=v)) (r:=rs) ok hf ⟨q9 ok hf hints ho k,hB⟩ c hT (fun e D' a' w' h1 h2 h3 => ?_)
    (a:={ tmps:=vs.toArray++Array.replicate (fn.ntmps-vs.toArray.size) undef,defers:=[] }) (by rw [hsz];exact I) ⟨rfl,fun _=>hT0⟩ h
   have key:(if tab.gv.contains f=true then sg mkU tab (erD D') (bw 0 ad) fn.results.toList else qE mkU tab (erD D') (bw 0 ad) fn.results.toList)=some rs→a'.defers=[]∧∃ v,(Go.results fn a'.tmps).run P w' = .ok v w'∧∃ v' od rd,Ending.returned v = .returned v'∧GrewH X w w'∧erR (od++rd)=rs∧OutsOk w' ad vs od∧RetOk w X w' (ad.flatMap ca) od rd v':=by
    intro h1
    split at h1
    ·rw [G4] at h1
     obtain ⟨all,h1',rfl⟩:=Option.map_eq_some_iff.1 h1
     obtain ⟨v,od,rd,rfl,g1,g2,g3⟩:=h3.endsV ok hA h1'
     exact ⟨h2.1,v,g1,v,od,rd,rfl,⟨h3.frame.os,h3.frame.tape,h3.frame.output,h3.frame.size,fun b hb hn=>h3.frame.same b ⟨hb,hn⟩⟩,rfl,g2,g3⟩
    rename_i hgv
    rw [Bool.not_eq_true] at hgv
    rw [CE] at h1
    obtain ⟨all,h1',rfl⟩:=Option.map_eq_some_iff.1 h1
    obtain ⟨v,od,rd,rfl,g1,g2,g3⟩:=h3.ends ok hA (h2.2 hgv) h1'
    exact ⟨h2.1,v,g1,v,od,rd,rfl,⟨h3.frame.os,h3.frame.tape,h3.frame.output,h3.frame.size,fun b hb hn=>h3.frame.same b ⟨hb,hn⟩⟩,rfl,g2,g3⟩
   cases e with
   | normal=>exact key h1
   | ret=>exact key h1
   | _=>cases h1
end Go.Proofs.YtgaiiephdjllkaaGreatDoor.Am
