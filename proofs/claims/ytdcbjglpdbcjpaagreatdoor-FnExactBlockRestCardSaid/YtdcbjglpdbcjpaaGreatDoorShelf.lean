/- Plain laws of texts, and the library's functions. -/
import Derived.Lib.SplitLaws
import Derived.Lib.SlicesCompact
import Derived.Lib.ItoaNum
import Derived.Lib.Join
import Derived.Shelf.Strings.Builder1
import Derived.Shelf.Strings.Builder2
import Derived.Shelf.Strings.OnBuilder
import Derived.Shelf.Small.Bits
import Derived.Shelf.Small.Wraps
import Derived.Shelf.Strings.BuilderF
import Derived.Shelf.Strings.BuilderK
import Derived.Shelf.Utf8.RuneCount
import Derived.Shelf.Strings.Builder2Cap
import Derived.Shelf.Strconv.Itoa0
import Derived.Shelf.Strconv.Itoa1
import Derived.Shelf.LaysM
import Derived.Shelf.Strconv.Itoa2
import Derived.Shelf.Strconv.Itoa3
import Derived.Shelf.Strings.Search1
import Derived.Shelf.Strings.Search2
import Derived.Shelf.Strings.Search3
import Derived.Shelf.Strings.Cut
import Derived.Shelf.Strings.Count
import Derived.Shelf.Strings.Shaped
import Derived.Shelf.Sort.Plain
import Derived.Shelf.Strings.Prefix
import Derived.Shelf.Strings.Split
import Derived.Shelf.Strings.SplitShaped
import Derived.Shelf.Unicode.Decode
import Derived.Shelf.Strings.RuneCount
import Derived.Shelf.Strings.Explode
import Derived.Shelf.Unicode.DecodeSlow
import Derived.Shelf.Unicode.DecodeAny
import Derived.Shelf.Strings.BuilderCap
import Derived.Shelf.Slices.Turned
import Derived.Ground.Names2Prog
import Derived.Shelf.Slices.CompactI
import Derived.Shelf.Slices.SearchI
import Derived.Shelf.Slices.Cells
import Derived.Shelf.Slices.In.SortNone
import Derived.Ground.SlgnProg
import Derived.Shelf.SlicesE.Compact
import Derived.Test.YtdcbjglpdbcjpaaGreatDoorProg
namespace Go.Proofs.YtdcbjglpdbcjpaaGreatDoor.Am
open Go
set_option linter.unusedVariables false
set_option linter.unusedSimpArgs false
def bE (c:UInt8):List UInt8→List (List UInt8)
 | []=>[[]]
 | b::l=>if b=c then []::bE c l else (match bE c l with | []=>[[b]] | x::xs=>(b::x)::xs)
def gy (p:List UInt8):List (List UInt8)→List (List UInt8)
 | []=>[p]
 | x::xs=>(p++x)::xs
theorem gA (c:UInt8) (l:List UInt8):∃ x xs,bE c l=x::xs:=by
 cases l with
 | nil=>exact ⟨_,_,rfl⟩
 | cons b l =>
  unfold bE
  split
  ·exact ⟨_,_,rfl⟩
  ·split<;>exact ⟨_,_,rfl⟩
theorem oS (c:UInt8) (l:List UInt8):bE c (c::l)=[]::bE c l:=by
 conv=>lhs;unfold bE
 rw [if_pos rfl]
theorem lM {b c:UInt8} (h:b≠c) (l:List UInt8):bE c (b::l)=gy [b] (bE c l):=by
 conv=>lhs;unfold bE
 rw [if_neg h]
 obtain ⟨x,xs,e⟩:=gA c l
 rw [e];rfl
theorem rQ (l:List (List UInt8)) (h:∃ x xs,l=x::xs):gy [] l=l:=by
 obtain ⟨x,xs,rfl⟩:=h;rfl
theorem zm (p q:List UInt8) (l:List (List UInt8)) (h:∃ x xs,l=x::xs):gy p (gy q l)=gy (p++q) l:=by
 obtain ⟨x,xs,rfl⟩:=h;simp [gy]
theorem qI {c:UInt8}:∀ {l:List UInt8},c∉l→bE c l=[l]
 | [],_=>rfl
 | b::l,h=>by
  simp only [List.mem_cons,not_or] at h
  rw [lM (Ne.symm h.1),qI h.2];rfl
theorem vW {c:UInt8} (b:List UInt8):∀ {a:List UInt8},c∉a→bE c (a++c::b)=a::bE c b
 | [],_=>oS c b
 | x::a,h=>by
  simp only [List.mem_cons,not_or] at h
  rw [List.cons_append,lM (Ne.symm h.1),vW b h.2];rfl
theorem ul (c:UInt8):∀ s:List UInt8,(Lib.index s [c] = -1∧c∉s)∨∃ a b,s=a++c::b∧c∉a∧Lib.index s [c]=(a.length:Int)
 | [] => .inl ⟨rfl,by simp⟩
 | x::s=>by
  unfold Lib.index
  by_cases h:c=x
  ·subst h
   exact .inr ⟨[],s,rfl,by simp,by simp⟩
  ·have hp:[c].isPrefixOf (x::s)=false:=by simp [List.isPrefixOf,h]
   rw [hp]
   rcases ul c s with ⟨h1,h2⟩ | ⟨a,b,h1,h2,h3⟩
   ·refine .inl ⟨by rw [h1];rfl,?_⟩
    simp only [List.mem_cons,not_or];exact ⟨h,h2⟩
   ·refine .inr ⟨x::a,b,by rw [h1];rfl,?_,?_⟩
    ·simp only [List.mem_cons,not_or];exact ⟨h,h2⟩
    ·rw [h3]
     have:((a.length:Int) == -1)=false:=by rw [beq_eq_false_iff_ne];omega
     simp [this]
theorem vQ (c:UInt8):∀ (k:Nat) (s:List UInt8),s.count c=k→Lib.splitK [c] 0 k s=bE c s
 | 0,s,h=>by rw [qI (List.count_eq_zero.1 h)];rfl
 | k+1,s,h=>by
  rcases ul c s with ⟨h1,h2⟩ | ⟨a,b,h1,h2,h3⟩
  ·rw [List.count_eq_zero.2 h2] at h;omega
  ·unfold Lib.splitK
   have:((a.length:Int) == -1)=false:=by rw [beq_eq_false_iff_ne];omega
   rw [h3,this]
   subst h1
   simp only [Int.toNat_natCast,Nat.add_zero,Bool.false_eq_true,if_false,List.take_left',List.length_singleton]
   have e:(a++c::b).drop (a.length+1)=b:=by
    rw [show a++c::b=(a++[c])++b by simp]
    exact List.drop_left' (by simp)
   have hc:b.count c=k:=by
    rw [List.count_append,List.count_cons_self,List.count_eq_zero.2 h2] at h;omega
   rw [e,vQ c k b hc,vW b h2]
def tx (s:ByteArray):List UInt8:=s.data.toList
def ofTx (l:List UInt8):ByteArray:=⟨l.toArray⟩
theorem re (s:ByteArray):ofTx (tx s)=s:=rfl
theorem rt (l:List UInt8):tx (ofTx l)=l:=rfl
theorem xS {a b:ByteArray} (h:tx a=tx b):a=b:=by rw [← re a, ← re b,h]
theorem In (l:List ByteArray):(l.map tx).map ofTx=l:=by
 induction l with
 | nil=>rfl
 | cons x l ih=>rw [List.map_cons,List.map_cons,ih,re]
theorem cM (s:ByteArray):s.size=(tx s).length:=by
 rw [ByteArray.size];simp [tx]
theorem Ei (s:ByteArray) (c:UInt8):Lib.splitB ⟨#[c]⟩ 0 (Lib.countB s ⟨#[c]⟩) s=(bE c (tx s)).map ofTx:=by
 rw [← In (Lib.splitB _ _ _ _)]
 congr 1
 have h:=Lib.splitB_data ⟨#[c]⟩ 0 (Lib.countB s ⟨#[c]⟩) s
 refine h.trans ?_
 refine vQ c _ _ ?_
 have:Lib.countB s ⟨#[c]⟩=Lib.count s.data.toList [c]:=rfl
 rw [this,Lib.count_one]
theorem Bh (s:List UInt8) (c:UInt8):(c∉s∧Lib.cut s [c]=(s,[],false)∧bE c s=[s])∨∃ a b,s=a++c::b∧c∉a∧Lib.cut s [c]=(a,b,true)∧bE c s=a::bE c b:=by
 rcases ul c s with ⟨h1,h2⟩ | ⟨a,b,h1,h2,h3⟩
 ·refine .inl ⟨h2,?_,qI h2⟩
  unfold Lib.cut
  rw [h1];rfl
 ·refine .inr ⟨a,b,h1,h2,?_,by rw [h1];exact vW b h2⟩
  unfold Lib.cut
  rw [h3,if_pos (by omega),h1]
  have e:(a++c::b).drop (a.length+1)=b:=by
   rw [show a++c::b=(a++[c])++b by simp]
   exact List.drop_left' (by simp)
  simp only [Int.toNat_natCast,List.length_singleton,List.take_left' rfl,e]
theorem Hz (a b:ByteArray):tx (a++b)=tx a++tx b:=by
 simp [tx]
theorem m4 (a b:List UInt8):ofTx a++ofTx b=ofTx (a++b):=by
 apply xS
 rw [Hz];rfl
theorem nH (l:List UInt8):(ofTx l).size=l.length:=cM _
def seg (s:List UInt8) (a b:Nat):List UInt8:=(s.take b).drop a
theorem xR (s:ByteArray) (a b:Nat):tx (s.extract a b)=seg (tx s) a b:=by
 unfold tx seg
 rw [ByteArray.data_extract,Array.toList_extract,List.extract_eq_take_drop,List.drop_take]
theorem kU (s:ByteArray) (a b:Nat):s.extract a b=ofTx (seg (tx s) a b):=xS (xR s a b)
theorem pu (s:List UInt8) (a:Nat):seg s a a=[]:=by unfold seg;simp
theorem CO {s:List UInt8} {a i:Nat} {b:UInt8} (ha:a≤i) (h:s[i]?=some b):seg s a (i+1)=seg s a i++[b]:=by
 unfold seg
 have hi:i<s.length:=by
  rcases Nat.lt_or_ge i s.length with g | g
  ·exact g
  ·rw [List.getElem?_eq_none g] at h;cases h
 rw [List.take_add_one,h,List.drop_append_of_le_length (by simp;omega)]
 rfl
theorem EJ {s:List UInt8} {a i:Nat} (ha:a≤i) (hi:i≤s.length):(seg s a i).isEmpty=decide (a=i):=by
 have:(seg s a i).length=i-a:=by unfold seg;simp;omega
 by_cases h:a=i
 ·subst h;rw [pu];simp
 ·rw [decide_eq_false h]
  cases q:seg s a i with
  | nil=>rw [q] at this;simp at this;omega
  | cons x l=>rfl
theorem vX (c:UInt8):∀ l,(bE c l).length≤l.length+1
 | []=>by simp [bE]
 | b::l=>by
  have:=vX c l
  by_cases h:b=c
  ·subst h;rw [oS];simp;exact this
  ·rw [lM h]
   obtain ⟨x,xs,e⟩:=gA c l
   rw [e] at this ⊢
   simp [gy] at this ⊢;omega
theorem vY (c:UInt8):∀ l,∀ x∈bE c l,x.length≤l.length
 | [],x,h=>by simp [bE] at h;subst h;simp
 | b::l,x,h=>by
  have ih:=vY c l
  by_cases q:b=c
  ·subst q
   rw [oS] at h
   rcases List.mem_cons.1 h with rfl | h
   ·simp
   ·have:=ih x h;simp;omega
  ·rw [lM q] at h
   obtain ⟨y,ys,e⟩:=gA c l
   rw [e] at h ih
   simp only [gy] at h
   rcases List.mem_cons.1 h with rfl | h
   ·have:=ih y (by simp);simp;omega
   ·have:=ih x (by simp [h]);simp;omega
theorem x7 (s:ByteArray):s.toList=tx s:=ByteArray.toList_eq s
theorem jb (a b:ByteArray):(a.toList==b.toList)=decide (tx a=tx b):=by
 rw [x7,x7]
 by_cases h:tx a=tx b
 ·rw [h];simp
 ·rw [decide_eq_false h];simpa using h
theorem Dg (u:Nat) (h:0<u):Lib.decDigits u=(if u/10=0 then [] else Lib.decDigits (u/10))++[UInt8.ofNat (48+u % 10)]:=by
 by_cases q:u<10
 ·rw [Lib.decDigits,dif_pos q,if_pos (by omega),show u % 10=u by omega];rfl
 ·conv=>lhs;rw [Lib.decDigits]
  rw [dif_neg q,if_neg (by omega)]
theorem rK:∀ (d u:Nat),u<10 ^ (d+1)→(Lib.decDigits u).length≤d+1
 | 0,u,h=>by rw [Lib.decDigits,dif_pos (by simpa using h)];simp
 | d+1,u,h=>by
  rw [Lib.decDigits]
  split
  ·simp
  ·rw [List.length_append]
   have:=rK d (u/10) (by rw [Nat.pow_succ] at h;omega)
   simp;omega
theorem uR:∀ {l m:List Int},l.Pairwise (· < ·)→m.Pairwise (· < ·)→(∀ x,x∈l↔x∈m)→l=m
 | [],[],_,_,_=>rfl
 | [],y::m,_,_,h=>by have:=(h y).2 (by simp);simp at this
 | x::l,[],_,_,h=>by have:=(h x).1 (by simp);simp at this
 | x::l,y::m,h1,h2,h=>by
  rw [List.pairwise_cons] at h1 h2
  have e:x=y:=by
   have a:=(h x).1 (by simp)
   have b:=(h y).2 (by simp)
   rcases List.mem_cons.1 a with a | a
   ·exact a
   ·rcases List.mem_cons.1 b with b | b
    ·exact b.symm
    ·have:=h2.1 x a;have:=h1.1 y b;omega
  subst e
  congr 1
  refine uR h1.2 h2.2 fun z=>⟨fun hz => ?_,fun hz => ?_⟩
  ·rcases List.mem_cons.1 ((h z).1 (List.mem_cons_of_mem _ hz)) with e | e
   ·have:=h1.1 z hz;omega
   ·exact e
  ·rcases List.mem_cons.1 ((h z).2 (List.mem_cons_of_mem _ hz)) with e | e
   ·have:=h2.1 z hz;omega
   ·exact e
theorem y9 (d:Array Int) (hs:∀ i j,i≤j→j<d.size→d[i]! ≤ d[j]!):∀ m,m≤d.size →
  (Lib.compactUpTo d m).Pairwise (· < ·)∧∀ x,x∈Lib.compactUpTo d m↔∃ j,j<m∧d[j]! = x
 | 0,_=>⟨by simp [Lib.compactUpTo],fun x=>by simp [Lib.compactUpTo]⟩
 | m+1,hm=>by
  obtain ⟨h1,h2⟩:=y9 d hs m (by omega)
  rw [Lib.compactUpTo_succ]
  by_cases k:Lib.keeps d m=true
  ·rw [if_pos k]
   have k':m=0∨d[m]! ≠ d[m-1]! := by simpa [Lib.keeps] using k
   refine ⟨?_,fun x => ?_⟩
   ·rw [List.pairwise_append]
    refine ⟨h1,by simp,fun a ha b hb => ?_⟩
    simp only [List.mem_singleton] at hb
    subst hb
    obtain ⟨j,hj,rfl⟩:=(h2 a).1 ha
    rcases k' with k' | k'
    ·omega
    ·have a1:=hs j (m-1) (by omega) (by omega)
     have a2:=hs (m-1) m (by omega) (by omega)
     omega
   ·rw [List.mem_append,h2,List.mem_singleton]
    constructor
    ·rintro (⟨j,hj,e⟩ | e)
     ·exact ⟨j,by omega,e⟩
     ·exact ⟨m,by omega,e.symm⟩
    ·rintro ⟨j,hj,e⟩
     by_cases q:j=m
     ·subst q;exact .inr e.symm
     ·exact .inl ⟨j,by omega,e⟩
  ·rw [if_neg k,List.append_nil]
   have k':m≠0∧d[m]! = d[m-1]! := by
    rw [Bool.not_eq_true] at k
    simpa [Lib.keeps] using k
   refine ⟨h1,fun x => ?_⟩
   rw [h2]
   constructor
   ·rintro ⟨j,hj,e⟩;exact ⟨j,by omega,e⟩
   ·rintro ⟨j,hj,e⟩
    by_cases q:j=m
    ·subst q;exact ⟨j-1,by omega,by rw [← e,k'.2]⟩
    ·exact ⟨j,by omega,e⟩
theorem yb (l:List Int) (h:l.Pairwise (· ≤ ·)):(Lib.compact l).Pairwise (· < ·)∧∀ x,x∈Lib.compact l↔x∈l:=by
 have hs:∀ i j,i≤j→j<l.toArray.size→l.toArray[i]! ≤ l.toArray[j]! := fun i j hij hj=>by
  have hj':j<l.length:=by simpa using hj
  rw [getElem!_pos l.toArray i (by simp;omega),getElem!_pos l.toArray j hj]
  simp only [List.getElem_toArray]
  by_cases e:i=j
  ·subst e;exact Int.le_refl _
  ·exact List.pairwise_iff_getElem.1 h i j (by omega) hj' (by omega)
 obtain ⟨h1,h2⟩:=y9 l.toArray hs l.length (by simp)
 refine ⟨h1,fun x=>(h2 x).trans ?_⟩
 constructor
 ·rintro ⟨j,hj,e⟩
  rw [getElem!_pos l.toArray j (by simpa using hj)] at e
  simp only [List.getElem_toArray] at e
  rw [← e];exact List.getElem_mem _
 ·intro hx
  obtain ⟨j,hj,e⟩:=List.getElem_of_mem hx
  exact ⟨j,hj,by rw [getElem!_pos l.toArray j (by simpa using hj)];simpa using e⟩
theorem CR (l:List Int):(Lib.compact (l.mergeSort fun x y=>decide (x≤y))).Pairwise (· < ·)∧∀ x,x∈Lib.compact (l.mergeSort fun x y=>decide (x≤y))↔x∈l:=by
 have hs:(l.mergeSort fun x y=>decide (x≤y)).Pairwise (· ≤ ·):=by
  have:=List.pairwise_mergeSort (le:=fun x y:Int=>decide (x≤y)) (fun a b c=>by simp;omega) (fun a b=>by simp;omega) l
  exact this.imp fun h=>by simpa using h
 obtain ⟨h1,h2⟩:=yb _ hs
 exact ⟨h1,fun x=>(h2 x).trans List.mem_mergeSort⟩
end Go.Proofs.YtdcbjglpdbcjpaaGreatDoor.Am
namespace Go.Proofs.YtdcbjglpdbcjpaaGreatDoor.Am
set_option linter.unusedVariables false
set_option linter.unusedSimpArgs false
open Go.Proofs
open Go.Shelf
def Tryz.lays156_ren:Go.Shelf.Ren:=⟨fun | 156=>84 | 165=>95 | 166=>96 | 169=>97 | 240=>105 | 241=>106 | 276=>124 | 277=>125 | n=>n,fun | 31=>67 | 9=>9 | 3=>3 | 4=>4 | 0=>0 | 20=>20 | 72=>132 | 76=>136 | 70=>130 | 37=>109 | 75=>135 | 127=>146 | 164=>161 | 5=>5 | 80=>138 | n=>n,fun | n=>n⟩
theorem Tryz.lays156:Go.Proofs.Lays.n156 Tryz.prog Tryz.lays156_ren:={
 mixed:=by kernel_rfl
 f156:=Tryz.func84.trans (congrArg some (by kernel_rfl))
 f165:=Tryz.func95.trans (congrArg some (by kernel_rfl))
 f166:=Tryz.func96.trans (congrArg some (by kernel_rfl))
 f169:=Tryz.func97.trans (congrArg some (by kernel_rfl))
 f240:=Tryz.func105.trans (congrArg some (by kernel_rfl))
 f241:=Tryz.func106.trans (congrArg some (by kernel_rfl))
 f276:=Tryz.func124.trans (congrArg some (by kernel_rfl))
 f277:=Tryz.func125.trans (congrArg some (by kernel_rfl))
 t0:=Tryz.underlying0
 a0:=Tryz.isAgg0
 z0:=Tryz.sizeOf0
 v0:=Tryz.zeroValue0
 t3:=Tryz.underlying3
 a3:=Tryz.isAgg3
 z3:=Tryz.sizeOf3
 v3:=Tryz.zeroValue3
 t4:=Tryz.underlying4
 a4:=Tryz.isAgg4
 z4:=Tryz.sizeOf4
 v4:=Tryz.zeroValue4
 t9:=Tryz.underlying9
 a9:=Tryz.isAgg9
 z9:=Tryz.sizeOf9
 v9:=Tryz.zeroValue9
 t20:=Tryz.underlying20
 a20:=Tryz.isAgg20
 z20:=Tryz.sizeOf20
 v20:=Tryz.zeroValue20
 t31:=Tryz.underlying67
 a31:=Tryz.isAgg67
 z31:=Tryz.sizeOf67
 v31:=Tryz.zeroValue67
 t37:=Tryz.underlying109
 a37:=Tryz.isAgg109
 z37:=Tryz.sizeOf109
 v37:=Tryz.zeroValue109
 t70:=Tryz.underlying130
 a70:=Tryz.isAgg130
 z70:=Tryz.sizeOf130
 v70:=Tryz.zeroValue130
 t72:=Tryz.underlying132
 a72:=Tryz.isAgg132
 z72:=Tryz.sizeOf132
 v72:=Tryz.zeroValue132
 t75:=Tryz.underlying135
 a75:=Tryz.isAgg135
 z75:=Tryz.sizeOf135
 v75:=Tryz.zeroValue135
 t76:=Tryz.underlying136
 a76:=Tryz.isAgg136
 z76:=Tryz.sizeOf136
 v76:=Tryz.zeroValue136
 t127:=Tryz.underlying146
 a127:=Tryz.isAgg146
 z127:=Tryz.sizeOf146
 v127:=Tryz.zeroValue146
 t164:=Tryz.underlying161
 a164:=Tryz.isAgg161
 z164:=Tryz.sizeOf161
 v164:=Tryz.zeroValue161 }
theorem Tryz.Builder_Extra_156:Builder.Extra Tryz.prog Tryz.lays156_ren:={
 sizeBuilder:=by kernel_rfl
 liesBuilder:=by kernel_rfl
 t5:=Tryz.underlying5
 a5:=Tryz.isAgg5
 z5:=Tryz.sizeOf5
 v5:=Tryz.zeroValue5
 infoByte:=by kernel_rfl
 cellsByte:=by kernel_rfl
 sizeByte:=by kernel_rfl
 neB5:=by decide }
open Go.RowKit in
theorem Tryz.strings_Join_none (a:Option Addr) (c:Nat) (sep:ByteArray) (w:World) :
  Calls Tryz.prog 84 #[.slice a 0 c,.string sep] w fun e w'=>e = .returned (.string ⟨#[]⟩)∧w'=w:=Any.strings_Join_none Tryz.lays156 Tryz.Builder_Extra_156 a c sep w
open Go.RowKit in
theorem Tryz.strings_Join (bk o c:Nat) (xs:List ByteArray) (sep:ByteArray) (w:World) (hcells:∀ (j:Nat) x,xs[j]?=some x→w.cell? ⟨bk,o+j,none⟩=some (.string x)) (hbk:bk<w.heap.size) (hN:xs.length≤140737488355328) (hcap:xs.length≤c) (hlen:(Lib.join (xs.map (·.data.toList)) sep.data.toList).length≤140737488355328) :
  Calls Tryz.prog 84 #[.slice (some ⟨bk,o,none⟩) xs.length c,.string sep] w fun e w'=>e = .returned (.string ⟨(Lib.join (xs.map (·.data.toList)) sep.data.toList).toArray⟩)∧Below w.heap.size w w':=Any.strings_Join Tryz.lays156 Tryz.Builder_Extra_156 bk o c xs sep w hcells hbk hN hcap hlen
def Tryz.lays103_ren:Go.Shelf.Ren:=⟨fun | 103=>101 | 210=>121 | 206=>136 | n=>n,fun | 9=>9 | 4=>4 | 24=>74 | 3=>3 | n=>n,fun | n=>n⟩
theorem Tryz.lays103:Go.Proofs.Lays.n103 Tryz.prog Tryz.lays103_ren:={
 mixed:=by kernel_rfl
 f103:=Tryz.func101.trans (congrArg some (by kernel_rfl))
 f206:=Tryz.func136.trans (congrArg some (by kernel_rfl))
 f210:=Tryz.func121.trans (congrArg some (by kernel_rfl))
 t3:=Tryz.underlying3
 a3:=Tryz.isAgg3
 z3:=Tryz.sizeOf3
 v3:=Tryz.zeroValue3
 t4:=Tryz.underlying4
 a4:=Tryz.isAgg4
 z4:=Tryz.sizeOf4
 v4:=Tryz.zeroValue4
 t9:=Tryz.underlying9
 a9:=Tryz.isAgg9
 z9:=Tryz.sizeOf9
 v9:=Tryz.zeroValue9
 t24:=Tryz.underlying74
 a24:=Tryz.isAgg74
 z24:=Tryz.sizeOf74
 v24:=Tryz.zeroValue74 }
open Go.RowKit in
theorem Tryz.strings_CutPrefix (s p:ByteArray) (w:World) :
  Calls Tryz.prog 101 #[.string s,.string p] w fun e w'=>e = .returned (.tuple #[.string ⟨(Lib.trimPrefix s.data.toList p.data.toList).toArray⟩,.bool (Lib.hasPrefix s.data.toList p.data.toList)])∧w'=w:=Any.strings_CutPrefix Tryz.lays103 s p w
def Tryz.laysM171_ren:Go.Shelf.Ren:=⟨fun | 171=>94 | 243=>104 | 246=>123 | 283=>137 | 284=>138 | 285=>139 | 286=>140 | 129=>117 | 317=>147 | 318=>148 | 319=>149 | 320=>150 | 337=>153 | 338=>154 | n=>n,fun | 3=>3 | 9=>9 | 2=>2 | 4=>4 | 171=>175 | 0=>0 | 53=>157 | 37=>109 | 5=>5 | 173=>177 | 212=>183 | 51=>155 | 20=>20 | 213=>184 | 46=>141 | 232=>191 | 233=>192 | n=>n,fun | 17=>1 | 18=>4 | 19=>5 | n=>n⟩
theorem Tryz.laysM171:Go.Proofs.LaysM.n171 Tryz.prog Tryz.laysM171_ren:={
 mixed:=by kernel_rfl
 f129:=Tryz.func117.trans (congrArg some (by kernel_rfl))
 f171:=Tryz.func94.trans (congrArg some (by kernel_rfl))
 f243:=Tryz.func104.trans (congrArg some (by kernel_rfl))
 f246:=Tryz.func123.trans (congrArg some (by kernel_rfl))
 f283:=Tryz.func137.trans (congrArg some (by kernel_rfl))
 f284:=Tryz.func138.trans (congrArg some (by kernel_rfl))
 f285:=Tryz.func139.trans (congrArg some (by kernel_rfl))
 f286:=Tryz.func140.trans (congrArg some (by kernel_rfl))
 f317:=Tryz.func147.trans (congrArg some (by kernel_rfl))
 f318:=Tryz.func148.trans (congrArg some (by kernel_rfl))
 f319:=Tryz.func149.trans (congrArg some (by kernel_rfl))
 f320:=Tryz.func150.trans (congrArg some (by kernel_rfl))
 f337:=Tryz.func153.trans (congrArg some (by kernel_rfl))
 f338:=Tryz.func154.trans (congrArg some (by kernel_rfl))
 t0:=Tryz.underlying0
 a0:=Tryz.isAgg0
 z0:=Tryz.sizeOf0
 v0:=Tryz.zeroValue0
 t2:=Tryz.underlying2
 a2:=Tryz.isAgg2
 z2:=Tryz.sizeOf2
 v2:=Tryz.zeroValue2
 t3:=Tryz.underlying3
 a3:=Tryz.isAgg3
 z3:=Tryz.sizeOf3
 v3:=Tryz.zeroValue3
 t4:=Tryz.underlying4
 a4:=Tryz.isAgg4
 z4:=Tryz.sizeOf4
 v4:=Tryz.zeroValue4
 t5:=Tryz.underlying5
 a5:=Tryz.isAgg5
 z5:=Tryz.sizeOf5
 v5:=Tryz.zeroValue5
 t9:=Tryz.underlying9
 a9:=Tryz.isAgg9
 z9:=Tryz.sizeOf9
 v9:=Tryz.zeroValue9
 t20:=Tryz.underlying20
 a20:=Tryz.isAgg20
 z20:=Tryz.sizeOf20
 v20:=Tryz.zeroValue20
 t37:=Tryz.underlying109
 a37:=Tryz.isAgg109
 z37:=Tryz.sizeOf109
 v37:=Tryz.zeroValue109
 t46:=Tryz.underlying141
 a46:=Tryz.isAgg141
 z46:=Tryz.sizeOf141
 v46:=Tryz.zeroValue141
 t51:=Tryz.underlying155
 a51:=Tryz.isAgg155
 z51:=Tryz.sizeOf155
 v51:=Tryz.zeroValue155
 t53:=Tryz.underlying157
 a53:=Tryz.isAgg157
 z53:=Tryz.sizeOf157
 v53:=Tryz.zeroValue157
 t171:=Tryz.underlying175
 a171:=Tryz.isAgg175
 z171:=Tryz.sizeOf175
 v171:=Tryz.zeroValue175
 t173:=Tryz.underlying177
 a173:=Tryz.isAgg177
 z173:=Tryz.sizeOf177
 v173:=Tryz.zeroValue177
 t212:=Tryz.underlying183
 a212:=Tryz.isAgg183
 z212:=Tryz.sizeOf183
 v212:=Tryz.zeroValue183
 t213:=Tryz.underlying184
 a213:=Tryz.isAgg184
 z213:=Tryz.sizeOf184
 t232:=Tryz.underlying191
 a232:=Tryz.isAgg191
 z232:=Tryz.sizeOf191
 v232:=Tryz.zeroValue191
 t233:=Tryz.underlying192
 a233:=Tryz.isAgg192
 z233:=Tryz.sizeOf192
 v233:=Tryz.zeroValue192
 g17:=by kernel_rfl
 g18:=by kernel_rfl
 g19:=by kernel_rfl
 i0:=by kernel_rfl
 i2:=by kernel_rfl
 i3:=by kernel_rfl
 i4:=by kernel_rfl
 i5:=by kernel_rfl
 i9:=by kernel_rfl
 i20:=by kernel_rfl
 i37:=by kernel_rfl
 i46:=by kernel_rfl
 i51:=by kernel_rfl
 i53:=by kernel_rfl
 i171:=by kernel_rfl
 i173:=by kernel_rfl
 i212:=by kernel_rfl
 i232:=by kernel_rfl
 i233:=by kernel_rfl
 m17:=by kernel_rfl
 m18:=by kernel_rfl
 m19:=by kernel_rfl }
open Go.RowKit Go.Sort Go.Lib in
theorem Tryz.strconv_Itoa (n : Int) (h0 : -9223372036854775808 ≤ n) (h1 : n ≤ 9223372036854775807) (w : World) (htab : Lib.TabIs Tryz.prog w "internal/strconv.uint64pow10" .u64 Lib.pow10Tab) :
  Calls Tryz.prog 94 #[.int .i64 n] w fun e w'=>e = .returned (.string ⟨(Lib.itoa n).toArray⟩)∧∃ k os,w'=grow (w.drewN k) os:=Any.strconv_Itoa Tryz.laysM171 n h0 h1 w htab
def Tryz.lays145_ren:Go.Shelf.Ren:=⟨fun | 145=>103 | 220=>122 | 219=>135 | 217=>143 | 225=>144 | 224=>145 | 267=>146 | 266=>151 | 314=>152 | n=>n,fun | 9=>9 | 4=>4 | 59=>144 | 3=>3 | 5=>5 | 46=>141 | 146=>189 | 51=>155 | n=>n,fun | 1=>0 | n=>n⟩
theorem Tryz.lays145:Go.Proofs.Lays.n145 Tryz.prog Tryz.lays145_ren:={
 mixed:=by kernel_rfl
 f145:=Tryz.func103.trans (congrArg some (by kernel_rfl))
 f217:=Tryz.func143.trans (congrArg some (by kernel_rfl))
 f219:=Tryz.func135.trans (congrArg some (by kernel_rfl))
 f220:=Tryz.func122.trans (congrArg some (by kernel_rfl))
 f224:=Tryz.func145.trans (congrArg some (by kernel_rfl))
 f225:=Tryz.func144.trans (congrArg some (by kernel_rfl))
 f266:=Tryz.func151.trans (congrArg some (by kernel_rfl))
 f267:=Tryz.func146.trans (congrArg some (by kernel_rfl))
 f314:=Tryz.func152.trans (congrArg some (by kernel_rfl))
 t3:=Tryz.underlying3
 a3:=Tryz.isAgg3
 z3:=Tryz.sizeOf3
 v3:=Tryz.zeroValue3
 t4:=Tryz.underlying4
 a4:=Tryz.isAgg4
 z4:=Tryz.sizeOf4
 v4:=Tryz.zeroValue4
 t5:=Tryz.underlying5
 a5:=Tryz.isAgg5
 z5:=Tryz.sizeOf5
 v5:=Tryz.zeroValue5
 t9:=Tryz.underlying9
 a9:=Tryz.isAgg9
 z9:=Tryz.sizeOf9
 v9:=Tryz.zeroValue9
 t46:=Tryz.underlying141
 a46:=Tryz.isAgg141
 z46:=Tryz.sizeOf141
 v46:=Tryz.zeroValue141
 t51:=Tryz.underlying155
 a51:=Tryz.isAgg155
 z51:=Tryz.sizeOf155
 v51:=Tryz.zeroValue155
 t59:=Tryz.underlying144
 a59:=Tryz.isAgg144
 z59:=Tryz.sizeOf144
 v59:=Tryz.zeroValue144
 t146:=Tryz.underlying189
 a146:=Tryz.isAgg189
 z146:=Tryz.sizeOf189
 v146:=Tryz.zeroValue189
 g1:=by kernel_rfl }
open Go.RowKit Go.Lib in
theorem Tryz.strings_Cut (s sep:ByteArray) (m:Int) (w:World) (hs:s.size<4294967281) (hm:w.cell? ⟨0,0,none⟩=some (.int .i64 m)) :
  Calls Tryz.prog 103 #[.string s,.string sep] w fun e w'=>e = .returned (.tuple #[.string ⟨(Lib.cut s.data.toList sep.data.toList).1.toArray⟩,.string ⟨(Lib.cut s.data.toList sep.data.toList).2.1.toArray⟩,.bool (Lib.cut s.data.toList sep.data.toList).2.2])∧∃ n,w'=w.drewN n:=Any.strings_Cut Tryz.lays145 s sep m w hs hm
def Tryz.lays189_ren:Go.Shelf.Ren:=⟨fun | 189=>86 | 125=>99 | 257=>98 | 128=>116 | 129=>117 | 294=>107 | 295=>108 | 296=>109 | 297=>110 | 298=>111 | 299=>112 | 216=>113 | 300=>114 | 301=>115 | 328=>126 | 329=>127 | 330=>128 | 331=>129 | 332=>130 | 215=>131 | 343=>141 | n=>n,fun | 28=>51 | 3=>3 | 46=>141 | 0=>0 | 51=>155 | 53=>157 | 4=>4 | 183=>149 | 182=>148 | 131=>122 | 5=>5 | 9=>9 | 218=>164 | 222=>168 | 228=>179 | 229=>127 | n=>n,fun | n=>n⟩
theorem Tryz.lays189:Go.Proofs.Lays.n189 Tryz.prog Tryz.lays189_ren:={
 mixed:=by kernel_rfl
 f125:=Tryz.func99.trans (congrArg some (by kernel_rfl))
 f128:=Tryz.func116.trans (congrArg some (by kernel_rfl))
 f129:=Tryz.func117.trans (congrArg some (by kernel_rfl))
 f189:=Tryz.func86.trans (congrArg some (by kernel_rfl))
 f215:=Tryz.func131.trans (congrArg some (by kernel_rfl))
 f216:=Tryz.func113.trans (congrArg some (by kernel_rfl))
 f257:=Tryz.func98.trans (congrArg some (by kernel_rfl))
 f294:=Tryz.func107.trans (congrArg some (by kernel_rfl))
 f295:=Tryz.func108.trans (congrArg some (by kernel_rfl))
 f296:=Tryz.func109.trans (congrArg some (by kernel_rfl))
 f297:=Tryz.func110.trans (congrArg some (by kernel_rfl))
 f298:=Tryz.func111.trans (congrArg some (by kernel_rfl))
 f299:=Tryz.func112.trans (congrArg some (by kernel_rfl))
 f300:=Tryz.func114.trans (congrArg some (by kernel_rfl))
 f301:=Tryz.func115.trans (congrArg some (by kernel_rfl))
 f328:=Tryz.func126.trans (congrArg some (by kernel_rfl))
 f329:=Tryz.func127.trans (congrArg some (by kernel_rfl))
 f330:=Tryz.func128.trans (congrArg some (by kernel_rfl))
 f331:=Tryz.func129.trans (congrArg some (by kernel_rfl))
 f332:=Tryz.func130.trans (congrArg some (by kernel_rfl))
 f343:=Tryz.func141.trans (congrArg some (by kernel_rfl))
 t0:=Tryz.underlying0
 a0:=Tryz.isAgg0
 z0:=Tryz.sizeOf0
 v0:=Tryz.zeroValue0
 t3:=Tryz.underlying3
 a3:=Tryz.isAgg3
 z3:=Tryz.sizeOf3
 v3:=Tryz.zeroValue3
 t4:=Tryz.underlying4
 a4:=Tryz.isAgg4
 z4:=Tryz.sizeOf4
 v4:=Tryz.zeroValue4
 t5:=Tryz.underlying5
 a5:=Tryz.isAgg5
 z5:=Tryz.sizeOf5
 v5:=Tryz.zeroValue5
 t9:=Tryz.underlying9
 a9:=Tryz.isAgg9
 z9:=Tryz.sizeOf9
 v9:=Tryz.zeroValue9
 t28:=Tryz.underlying51
 a28:=Tryz.isAgg51
 z28:=Tryz.sizeOf51
 v28:=Tryz.zeroValue51
 t46:=Tryz.underlying141
 a46:=Tryz.isAgg141
 z46:=Tryz.sizeOf141
 v46:=Tryz.zeroValue141
 t51:=Tryz.underlying155
 a51:=Tryz.isAgg155
 z51:=Tryz.sizeOf155
 v51:=Tryz.zeroValue155
 t53:=Tryz.underlying157
 a53:=Tryz.isAgg157
 z53:=Tryz.sizeOf157
 v53:=Tryz.zeroValue157
 t131:=Tryz.underlying122
 a131:=Tryz.isAgg122
 z131:=Tryz.sizeOf122
 v131:=Tryz.zeroValue122
 t182:=Tryz.underlying148
 a182:=Tryz.isAgg148
 z182:=Tryz.sizeOf148
 v182:=Tryz.zeroValue148
 t183:=Tryz.underlying149
 a183:=Tryz.isAgg149
 z183:=Tryz.sizeOf149
 v183:=Tryz.zeroValue149
 t218:=Tryz.underlying164
 a218:=Tryz.isAgg164
 z218:=Tryz.sizeOf164
 v218:=Tryz.zeroValue164
 t222:=Tryz.underlying168
 a222:=Tryz.isAgg168
 z222:=Tryz.sizeOf168
 v222:=Tryz.zeroValue168
 t228:=Tryz.underlying179
 a228:=Tryz.isAgg179
 z228:=Tryz.sizeOf179
 v228:=Tryz.zeroValue179
 t229:=Tryz.underlying127
 a229:=Tryz.isAgg127
 z229:=Tryz.sizeOf127
 v229:=Tryz.zeroValue127 }
open Go.Sort Go.RowKit in
theorem Tryz.slices_Sort_int (blk off cap:Nat) (zs:List Int) (w:World) (hH:Holds (Value.int .i64) w blk off zs.toArray) (hblk:blk<w.heap.size) (hsz:zs.length<4611686018427387904) :
  Calls Tryz.prog 86 #[.slice (some ⟨blk,off,none⟩) zs.length cap] w fun e w' =>
   e = .returned (.tuple #[])∧∃ n os,w'=grow (putRow (Value.int .i64) (Sort.ahead w n) blk off (zs.mergeSort fun x y=>decide (x≤y)).toArray) os:=Any.slices_Sort_int Tryz.lays189 blk off cap zs w hH hblk hsz
def Tryz.lays146_ren:Go.Shelf.Ren:=⟨fun | 146=>89 | 221=>100 | 268=>118 | 138=>119 | 143=>120 | 195=>132 | 197=>133 | 218=>134 | 219=>135 | 260=>142 | 217=>143 | 225=>144 | 224=>145 | 267=>146 | 266=>151 | 314=>152 | n=>n,fun | 9=>9 | 31=>67 | 3=>3 | 4=>4 | 0=>0 | 105=>171 | 21=>21 | 5=>5 | 46=>141 | 119=>185 | 139=>188 | 138=>187 | 146=>189 | 51=>155 | n=>n,fun | 1=>0 | 3=>2 | 4=>3 | n=>n⟩
theorem Tryz.lays146:Go.Proofs.Lays.n146 Tryz.prog Tryz.lays146_ren:={
 mixed:=by kernel_rfl
 f138:=Tryz.func119.trans (congrArg some (by kernel_rfl))
 f143:=Tryz.func120.trans (congrArg some (by kernel_rfl))
 f146:=Tryz.func89.trans (congrArg some (by kernel_rfl))
 f195:=Tryz.func132.trans (congrArg some (by kernel_rfl))
 f197:=Tryz.func133.trans (congrArg some (by kernel_rfl))
 f217:=Tryz.func143.trans (congrArg some (by kernel_rfl))
 f218:=Tryz.func134.trans (congrArg some (by kernel_rfl))
 f219:=Tryz.func135.trans (congrArg some (by kernel_rfl))
 f221:=Tryz.func100.trans (congrArg some (by kernel_rfl))
 f224:=Tryz.func145.trans (congrArg some (by kernel_rfl))
 f225:=Tryz.func144.trans (congrArg some (by kernel_rfl))
 f260:=Tryz.func142.trans (congrArg some (by kernel_rfl))
 f266:=Tryz.func151.trans (congrArg some (by kernel_rfl))
 f267:=Tryz.func146.trans (congrArg some (by kernel_rfl))
 f268:=Tryz.func118.trans (congrArg some (by kernel_rfl))
 f314:=Tryz.func152.trans (congrArg some (by kernel_rfl))
 t0:=Tryz.underlying0
 a0:=Tryz.isAgg0
 z0:=Tryz.sizeOf0
 v0:=Tryz.zeroValue0
 t3:=Tryz.underlying3
 a3:=Tryz.isAgg3
 z3:=Tryz.sizeOf3
 v3:=Tryz.zeroValue3
 t4:=Tryz.underlying4
 a4:=Tryz.isAgg4
 z4:=Tryz.sizeOf4
 v4:=Tryz.zeroValue4
 t5:=Tryz.underlying5
 a5:=Tryz.isAgg5
 z5:=Tryz.sizeOf5
 v5:=Tryz.zeroValue5
 t9:=Tryz.underlying9
 a9:=Tryz.isAgg9
 z9:=Tryz.sizeOf9
 v9:=Tryz.zeroValue9
 t21:=Tryz.underlying21
 a21:=Tryz.isAgg21
 z21:=Tryz.sizeOf21
 v21:=Tryz.zeroValue21
 t31:=Tryz.underlying67
 a31:=Tryz.isAgg67
 z31:=Tryz.sizeOf67
 v31:=Tryz.zeroValue67
 t46:=Tryz.underlying141
 a46:=Tryz.isAgg141
 z46:=Tryz.sizeOf141
 v46:=Tryz.zeroValue141
 t51:=Tryz.underlying155
 a51:=Tryz.isAgg155
 z51:=Tryz.sizeOf155
 v51:=Tryz.zeroValue155
 t105:=Tryz.underlying171
 a105:=Tryz.isAgg171
 z105:=Tryz.sizeOf171
 v105:=Tryz.zeroValue171
 t119:=Tryz.underlying185
 a119:=Tryz.isAgg185
 z119:=Tryz.sizeOf185
 t138:=Tryz.underlying187
 a138:=Tryz.isAgg187
 z138:=Tryz.sizeOf187
 v138:=Tryz.zeroValue187
 t139:=Tryz.underlying188
 a139:=Tryz.isAgg188
 z139:=Tryz.sizeOf188
 v139:=Tryz.zeroValue188
 t146:=Tryz.underlying189
 a146:=Tryz.isAgg189
 z146:=Tryz.sizeOf189
 v146:=Tryz.zeroValue189
 g1:=by kernel_rfl
 g3:=by kernel_rfl
 g4:=by kernel_rfl }
open Go.RowKit Go.Lib in
theorem Tryz.strings_Split (s sep:ByteArray) (m:Int) (w:World) (hs:s.size<4294967281) (hm:w.cell? ⟨0,0,none⟩=some (.int .i64 m)) (h1:1≤sep.size) :
  Calls Tryz.prog 89 #[.string s,.string sep] w fun e w' =>
   e = .returned (.slice (some ⟨w.heap.size,0,none⟩) (Lib.countB s sep+1) (Lib.countB s sep+1))∧w'=w.alloc (.cells ((Lib.splitB sep 0 (Lib.countB s sep) s).map Value.string).toArray 9):=Any.strings_Split Tryz.lays146 (by kernel_rfl) s sep m w hs hm h1
def Tryz.laysNm220_ren:Go.Shelf.Ren:=⟨fun | 20=>93 | n=>n,fun | 22=>51 | 3=>3 | 4=>4 | 0=>0 | n=>n,fun | n=>n⟩
theorem Tryz.laysNm220:Go.Proofs.Lays2.n20 Tryz.prog Tryz.laysNm220_ren:={
 mixed:=by kernel_rfl
 f20:=Tryz.func93.trans (congrArg some (by kernel_rfl))
 t0:=Tryz.underlying0
 a0:=Tryz.isAgg0
 z0:=Tryz.sizeOf0
 v0:=Tryz.zeroValue0
 t3:=Tryz.underlying3
 a3:=Tryz.isAgg3
 z3:=Tryz.sizeOf3
 v3:=Tryz.zeroValue3
 t4:=Tryz.underlying4
 a4:=Tryz.isAgg4
 z4:=Tryz.sizeOf4
 v4:=Tryz.zeroValue4
 t22:=Tryz.underlying51
 a22:=Tryz.isAgg51
 z22:=Tryz.sizeOf51
 v22:=Tryz.zeroValue51
 i3:=by kernel_rfl }
open Go.RowKit Go.Lib Go.Sort in
theorem Tryz.slices_Compact_int (blk off cap:Nat) (zs:List Int) (w:World) (hH:Holds (Value.int .i64) w blk off zs.toArray) (hsz:zs.length≤9223372036854775807) (hcap:zs.length≤cap) :
  Calls Tryz.prog 93 #[.slice (some ⟨blk,off,none⟩) zs.length cap] w fun e w'=>e = .returned (.slice (some ⟨blk,off,none⟩) (Lib.compact zs).length cap)∧∃ q,w'=putRow (Value.int .i64) (Sort.ahead w q) blk off (Lib.compact zs++List.replicate (zs.length-(Lib.compact zs).length) 0).toArray:=Any.slices_Compact_int Tryz.laysNm220 blk off cap zs w hH hsz hcap
open Go.RowKit Go.Lib Go.Sort in
theorem Tryz.slices_Compact_int_empty (a:Option Addr) (cap:Nat) (w:World) :
  Calls Tryz.prog 93 #[.slice a 0 cap] w fun e w'=>e = .returned (.slice a 0 cap)∧w'=w:=Any.slices_Compact_int_empty Tryz.laysNm220 a cap w
open Go.RowKit Go.Sort in
theorem Tryz.slices_Sort_int_none (p:Option Addr) (cap:Nat) (w:World) :
  Calls Tryz.prog 86 #[.slice p 0 cap] w fun e w'=>e = .returned (.tuple #[])∧w'=w:=Any.slices_Sort_int_none Tryz.lays189 p cap w
end Go.Proofs.YtdcbjglpdbcjpaaGreatDoor.Am
