/- Plain laws of texts, and the library's functions. -/
import Derived.Lib.SplitLaws
import Derived.Lib.SlicesCompact
import Derived.Lib.ItoaNum
import Derived.Lib.Join
import Derived.Shelf.Strings.Builder1
import Derived.Shelf.Strings.Builder2
import Derived.Shelf.Strings.OnBuilder
import Derived.Shelf.Small.Bits
import Derived.Shelf.Small.Wraps
import Derived.Shelf.Strings.BuilderF
import Derived.Shelf.Strings.BuilderK
import Derived.Shelf.Utf8.RuneCount
import Derived.Shelf.Strings.Builder2Cap
import Derived.Shelf.Strconv.Itoa0
import Derived.Shelf.Strconv.Itoa1
import Derived.Shelf.LaysM
import Derived.Shelf.Strconv.Itoa2
import Derived.Shelf.Strconv.Itoa3
import Derived.Shelf.Strings.Search1
import Derived.Shelf.Strings.Search2
import Derived.Shelf.Strings.Search3
import Derived.Shelf.Strings.Cut
import Derived.Shelf.Strings.Count
import Derived.Shelf.Strings.Shaped
import Derived.Shelf.Sort.Plain
import Derived.Shelf.Strings.Prefix
import Derived.Shelf.Strings.Split
import Derived.Shelf.Strings.SplitShaped
import Derived.Shelf.Unicode.Decode
import Derived.Shelf.Strings.RuneCount
import Derived.Shelf.Strings.Explode
import Derived.Shelf.Unicode.DecodeSlow
import Derived.Shelf.Unicode.DecodeAny
import Derived.Shelf.Strings.BuilderCap
import Derived.Shelf.Slices.Turned
import Derived.Ground.Names2Prog
import Derived.Shelf.Slices.CompactI
import Derived.Shelf.Slices.SearchI
import Derived.Shelf.Slices.Cells
import Derived.Shelf.Slices.In.SortNone
import Derived.Ground.SlgnProg
import Derived.Shelf.SlicesE.Compact
import Derived.Test.YtlgddjncnedkgaaGreatDoorProg
namespace Go.Proofs.YtlgddjncnedkgaaGreatDoor.Am
open Go
set_option linter.unusedVariables false
set_option linter.unusedSimpArgs false
def ci (c:UInt8):List UInt8→List (List UInt8)
 |[]=>[[]]
 |b::l=>if b=c then []::ci c l else(match ci c l with|[]=>[[b]]|x::xs=>(b::x)::xs)
def j8 (p:List UInt8):List (List UInt8)→List (List UInt8)|[]=>[p]|x::xs=>(p++x)::xs
theorem ka (c:UInt8)(l:List UInt8):∃x xs,ci c l=x::xs:=by
 cases l with
 |nil=>exact⟨_,_,rfl⟩
 |cons b l =>
  unfold ci;split
  ·exact⟨_,_,rfl⟩
  ·split<;>exact⟨_,_,rfl⟩
theorem uM (c:UInt8)(l:List UInt8):ci c (c::l)=[]::ci c l:=by
 conv=>lhs;unfold ci
 rw[if_pos rfl]
theorem pY {b c:UInt8}(h:b≠c)(l:List UInt8):ci c (b::l)=j8 [b] (ci c l):=by
 conv=>lhs;unfold ci
 rw[if_neg h];obtain⟨x,xs,e⟩:=ka c l;rw[e];rfl
theorem y6 (l:List (List UInt8))(h:∃x xs,l=x::xs):j8 [] l=l:=by obtain⟨x,xs,rfl⟩:=h;rfl
theorem H7 (p q:List UInt8)(l:List (List UInt8))(h:∃x xs,l=x::xs):j8 p (j8 q l)=j8 (p++q) l:=by obtain⟨x,xs,rfl⟩:=h;simp[j8]
theorem xI {c:UInt8}:∀{l:List UInt8},c∉l→ci c l=[l]
 |[],_=>rfl
 |b::l,h=>by simp only[List.mem_cons,not_or]at h;rw[pY (Ne.symm h.1),xI h.2];rfl
theorem DI {c:UInt8}(b:List UInt8):∀{a:List UInt8},c∉a→ci c (a++c::b)=a::ci c b
 |[],_=>uM c b
 |x::a,h=>by simp only[List.mem_cons,not_or]at h;rw[List.cons_append,pY (Ne.symm h.1),DI b h.2];rfl
theorem BA (c:UInt8):∀s:List UInt8,(Lib.index s [c]= -1∧c∉s)∨∃a b,s=a++c::b∧c∉a∧Lib.index s [c]=(a.length:Int)
 |[]=>.inl ⟨rfl,by simp⟩
 |x::s=>by
  unfold Lib.index;by_cases h:c=x
  ·subst h;exact .inr ⟨[],s,rfl,by simp,by simp⟩
  ·have f:[c].isPrefixOf (x::s)=false:=by simp[List.isPrefixOf,h]
   rw[f];rcases BA c s with⟨d,e⟩|⟨a,b,d,e,g⟩
   ·refine .inl ⟨by rw[d];rfl,?_⟩;simp only[List.mem_cons,not_or];exact⟨h,e⟩
   ·refine .inr ⟨x::a,b,by rw[d];rfl,?_,?_⟩
    ·simp only[List.mem_cons,not_or];exact⟨h,e⟩
    ·rw[g];have:((a.length:Int)== -1)=false:=by rw[beq_eq_false_iff_ne];omega
     simp[this]
theorem Dy (c:UInt8):∀(k:Nat)(s:List UInt8),s.count c=k→Lib.splitK [c] 0 k s=ci c s
 | 0,s,h=>by rw[xI (List.count_eq_zero.1 h)];rfl
 |k+1,s,h=>by
  rcases BA c s with⟨f,d⟩|⟨a,b,f,d,g⟩
  ·rw[List.count_eq_zero.2 d]at h;omega
  ·unfold Lib.splitK;have:((a.length:Int)== -1)=false:=by rw[beq_eq_false_iff_ne];omega
   rw[g,this];subst f;simp only[Int.toNat_natCast,Nat.add_zero,Bool.false_eq_true,if_false,List.take_left',List.length_singleton];have e:(a++c::b).drop (a.length+1)=b:=by rw[show a++c::b=(a++[c])++b by simp];exact List.drop_left' (by simp)
   have hc:b.count c=k:=by rw[List.count_append,List.count_cons_self,List.count_eq_zero.2 d]at h;omega
   rw[e,Dy c k b hc,DI b d]
def tx (s:ByteArray):List UInt8:=s.data.toList
def ofTx (l:List UInt8):ByteArray:=⟨l.toArray⟩
theorem yn (s:ByteArray):ofTx (tx s)=s:=rfl
theorem yJ (l:List UInt8):tx (ofTx l)=l:=rfl
theorem FY {a b:ByteArray}(h:tx a=tx b):a=b:=by rw[←yn a, ←yn b,h]
theorem Tl (l:List ByteArray):(l.map tx).map ofTx=l:=by
 induction l with
 |nil=>rfl
 |cons x l a=>rw[List.map_cons,List.map_cons,a,yn]
theorem dQ (s:ByteArray):s.size=(tx s).length:=by rw[ByteArray.size];simp[tx]
theorem Oi (s:ByteArray)(c:UInt8):Lib.splitB ⟨#[c]⟩ 0 (Lib.countB s ⟨#[c]⟩) s=(ci c (tx s)).map ofTx:=by rw[←Tl (Lib.splitB _ _ _ _)];congr 1;have h:=Lib.splitB_data ⟨#[c]⟩ 0 (Lib.countB s ⟨#[c]⟩) s;refine h.trans ?_;refine Dy c _ _ ?_;have:Lib.countB s ⟨#[c]⟩=Lib.count s.data.toList [c]:=rfl;rw[this,Lib.count_one]
theorem Kq (s:List UInt8)(c:UInt8):(c∉s∧Lib.cut s [c]=(s,[],false)∧ci c s=[s])∨∃a b,s=a++c::b∧c∉a∧Lib.cut s [c]=(a,b,true)∧ci c s=a::ci c b:=by
 rcases BA c s with⟨d,f⟩|⟨a,b,d,f,g⟩
 ·refine .inl ⟨f,?_,xI f⟩;unfold Lib.cut;rw[d];rfl
 ·refine .inr ⟨a,b,d,f,?_,by rw[d];exact DI b f⟩;unfold Lib.cut;rw[g,if_pos (by omega),d];have e:(a++c::b).drop (a.length+1)=b:=by rw[show a++c::b=(a++[c])++b by simp];exact List.drop_left' (by simp)
  simp only[Int.toNat_natCast,List.length_singleton,List.take_left' rfl,e]
theorem Sy (a b:ByteArray):tx (a++b)=tx a++tx b:=by simp[tx]
theorem rR (a b:List UInt8):ofTx a++ofTx b=ofTx (a++b):=by apply FY;rw[Sy];rfl
theorem sV (l:List UInt8):(ofTx l).size=l.length:=dQ _
def seg (s:List UInt8)(a b:Nat):List UInt8:=(s.take b).drop a
theorem FX (s:ByteArray)(a b:Nat):tx (s.extract a b)=seg (tx s) a b:=by unfold tx seg;rw[ByteArray.data_extract,Array.toList_extract,List.extract_eq_take_drop,List.drop_take]
theorem oO (s:ByteArray)(a b:Nat):s.extract a b=ofTx (seg (tx s) a b):=FY (FX s a b)
theorem vo (s:List UInt8)(a:Nat):seg s a a=[]:=by unfold seg;simp
theorem Mm {s:List UInt8}{a i:Nat}{b:UInt8}(c:a≤i)(h:s[i]?=some b):seg s a (i+1)=seg s a i++[b]:=by
 unfold seg;have hi:i<s.length:=by
  rcases Nat.lt_or_ge i s.length with g|g
  ·exact g
  ·rw[List.getElem?_eq_none g]at h;cases h
 rw[List.take_add_one,h,List.drop_append_of_le_length (by simp;omega)];rfl
theorem OQ {s:List UInt8}{a i:Nat}(b:a≤i)(hi:i≤s.length):(seg s a i).isEmpty=decide (a=i):=by
 have:(seg s a i).length=i-a:=by unfold seg;simp;omega
 by_cases h:a=i
 ·subst h;rw[vo];simp
 ·rw[decide_eq_false h];cases q:seg s a i with
  |nil=>rw[q]at this;simp at this;omega
  |cons x l=>rfl
theorem DJ (c:UInt8):∀l,(ci c l).length≤l.length+1
 |[]=>by simp[ci]
 |b::l=>by
  have:=DJ c l;by_cases h:b=c
  ·subst h;rw[uM];simp;exact this
  ·rw[pY h];obtain⟨x,xs,e⟩:=ka c l;rw[e]at this ⊢;simp[j8]at this ⊢;omega
theorem DK (c:UInt8):∀l,∀x∈ci c l,x.length≤l.length
 |[],x,h=>by simp[ci]at h;subst h;simp
 |b::l,x,h=>by
  have a:=DK c l;by_cases q:b=c
  ·subst q;rw[uM]at h;rcases List.mem_cons.1 h with rfl|h
   ·simp
   ·have:=a x h;simp;omega
  ·rw[pY q]at h;obtain⟨y,ys,e⟩:=ka c l;rw[e]at h a;simp only[j8]at h;rcases List.mem_cons.1 h with rfl|h
   ·have:=a y (by simp);simp;omega
   ·have:=a x (by simp[h]);simp;omega
theorem Ga (s:ByteArray):s.toList=tx s:=ByteArray.toList_eq s
theorem me (a b:ByteArray):(a.toList==b.toList)=decide (tx a=tx b):=by
 rw[Ga,Ga];by_cases h:tx a=tx b
 ·rw[h];simp
 ·rw[decide_eq_false h];simpa using h
theorem MV (u:Nat)(h:0<u):Lib.decDigits u=(if u/10=0 then []else Lib.decDigits (u/10))++[UInt8.ofNat (48+u % 10)]:=by
 by_cases q:u<10
 ·rw[Lib.decDigits,dif_pos q,if_pos (by omega),show u % 10=u by omega];rfl
 ·conv=>lhs;rw[Lib.decDigits]
  rw[dif_neg q,if_neg (by omega)]
theorem yW:∀(d u:Nat),u<10 ^ (d+1)→(Lib.decDigits u).length≤d+1
 | 0,u,h=>by rw[Lib.decDigits,dif_pos (by simpa using h)];simp
 |d+1,u,h=>by
  rw[Lib.decDigits];split
  ·simp
  ·rw[List.length_append];have:=yW d (u/10) (by rw[Nat.pow_succ]at h;omega);simp;omega
theorem wu:∀{l m:List Int},l.Pairwise (· < ·)→m.Pairwise (· < ·)→(∀x,x∈l↔x∈m)→l=m
 |[],[],_,_,_=>rfl
 |[],y::m,_,_,h=>by have:=(h y).2 (by simp);simp at this
 |x::l,[],_,_,h=>by have:=(h x).1 (by simp);simp at this
 |x::l,y::m,c,d,h=>by
  rw[List.pairwise_cons]at c d;have e:x=y:=by
   have a:=(h x).1 (by simp);have b:=(h y).2 (by simp);rcases List.mem_cons.1 a with a|a
   ·exact a
   ·rcases List.mem_cons.1 b with b|b
    ·exact b.symm
    ·have:=d.1 x a;have:=c.1 y b;omega
  subst e;congr 1;refine wu c.2 d.2 fun z=>⟨fun hz=>?_,fun hz=>?_⟩
  ·rcases List.mem_cons.1 ((h z).1 (List.mem_cons_of_mem _ hz))with e|e
   ·have:=c.1 z hz;omega
   ·exact e
  ·rcases List.mem_cons.1 ((h z).2 (List.mem_cons_of_mem _ hz))with e|e
   ·have:=d.1 z hz;omega
   ·exact e
theorem HU (d:Array Int)(hs:∀i j,i≤j→j<d.size→d[i]! ≤ d[j]!):∀m,m≤d.size →
  (Lib.compactUpTo d m).Pairwise (· < ·)∧∀x,x∈Lib.compactUpTo d m↔∃j,j<m∧d[j]! = x
 | 0,_=>⟨by simp[Lib.compactUpTo],fun x=>by simp[Lib.compactUpTo]⟩
 |m+1,l=>by
  obtain⟨g,f⟩:=HU d hs m (by omega);rw[Lib.compactUpTo_succ];by_cases k:Lib.keeps d m=true
  ·rw[if_pos k];have k':m=0∨d[m]! ≠ d[m-1]! := by simpa[Lib.keeps]using k
   refine⟨?_,fun x=>?_⟩
   ·rw[List.pairwise_append];refine⟨g,by simp,fun a h b hb=>?_⟩;simp only[List.mem_singleton]at hb;subst hb;obtain⟨j,c,rfl⟩:=(f a).1 h;rcases k' with k'|k'
    ·omega
    ·have n:=hs j (m-1) (by omega) (by omega);have a2:=hs (m-1) m (by omega) (by omega);omega
   ·rw[List.mem_append,f,List.mem_singleton];constructor
    ·rintro(⟨j,c,e⟩|e)
     ·exact⟨j,by omega,e⟩
     ·exact⟨m,by omega,e.symm⟩
    ·rintro⟨j,c,e⟩;by_cases q:j=m
     ·subst q;exact .inr e.symm
     ·exact .inl ⟨j,by omega,e⟩
  ·rw[if_neg k,List.append_nil];have k':m≠0∧d[m]! = d[m-1]! := by rw[Bool.not_eq_true]at k;simpa[Lib.keeps]using k
   refine⟨g,fun x=>?_⟩;rw[f];constructor
   ·rintro⟨j,c,e⟩;exact⟨j,by omega,e⟩
   ·rintro⟨j,c,e⟩;by_cases q:j=m
    ·subst q;exact⟨j-1,by omega,by rw[←e,k'.2]⟩
    ·exact⟨j,by omega,e⟩
theorem Ge (l:List Int)(h:l.Pairwise (· ≤ ·)):(Lib.compact l).Pairwise (· < ·)∧∀x,x∈Lib.compact l↔x∈l:=by
 have hs:∀i j,i≤j→j<l.toArray.size→l.toArray[i]! ≤ l.toArray[j]! := fun i j c a=>by
  have b:j<l.length:=by simpa using a
  rw[getElem!_pos l.toArray i (by simp;omega),getElem!_pos l.toArray j a];simp only[List.getElem_toArray];by_cases e:i=j
  ·subst e;exact Int.le_refl _
  ·exact List.pairwise_iff_getElem.1 h i j (by omega) b (by omega)
 obtain⟨d,f⟩:=HU l.toArray hs l.length (by simp);refine⟨d,fun x=>(f x).trans ?_⟩;constructor
 ·rintro⟨j,a,e⟩;rw[getElem!_pos l.toArray j (by simpa using a)]at e;simp only[List.getElem_toArray]at e;rw[←e];exact List.getElem_mem _
 ·intro g;obtain⟨j,a,e⟩:=List.getElem_of_mem g;exact⟨j,a,by rw[getElem!_pos l.toArray j (by simpa using a)];simpa using e⟩
theorem Mr (l:List Int):(Lib.compact (l.mergeSort fun x y=>decide (x≤y))).Pairwise (· < ·)∧∀x,x∈Lib.compact (l.mergeSort fun x y=>decide (x≤y))↔x∈l:=by
 have hs:(l.mergeSort fun x y=>decide (x≤y)).Pairwise (· ≤ ·):=by have:=List.pairwise_mergeSort (le:=fun x y:Int=>decide (x≤y)) (fun a b c=>by simp;omega) (fun a b=>by simp;omega) l;exact this.imp fun h=>by simpa using h
 obtain⟨d,e⟩:=Ge _ hs;exact⟨d,fun x=>(e x).trans List.mem_mergeSort⟩
section
open Go.Proofs Go.Shelf
def Tryz.lays156_ren:Go.Shelf.Ren:=⟨fun| 156=>156| 165=>169| 166=>170| 169=>171| 240=>178| 241=>179| 276=>186| 277=>187|n=>n,fun| 31=>108| 9=>9| 3=>3| 4=>4| 0=>0| 20=>20| 72=>209| 76=>213| 70=>207| 37=>132| 75=>212| 127=>222| 164=>226| 5=>5| 80=>215|n=>n,fun|n=>n⟩
theorem Tryz.lays156:Go.Proofs.Lays.n156 Tryz.prog Tryz.lays156_ren:={
 mixed:=by kernel_rfl
 f156:=Tryz.func156.trans (congrArg some (by kernel_rfl))
 f165:=Tryz.func169.trans (congrArg some (by kernel_rfl))
 f166:=Tryz.func170.trans (congrArg some (by kernel_rfl))
 f169:=Tryz.func171.trans (congrArg some (by kernel_rfl))
 f240:=Tryz.func178.trans (congrArg some (by kernel_rfl))
 f241:=Tryz.func179.trans (congrArg some (by kernel_rfl))
 f276:=Tryz.func186.trans (congrArg some (by kernel_rfl))
 f277:=Tryz.func187.trans (congrArg some (by kernel_rfl))
 t0:=Tryz.underlying0
 a0:=Tryz.isAgg0
 z0:=Tryz.sizeOf0
 v0:=Tryz.zeroValue0
 t3:=Tryz.underlying3
 a3:=Tryz.isAgg3
 z3:=Tryz.sizeOf3
 v3:=Tryz.zeroValue3
 t4:=Tryz.underlying4
 a4:=Tryz.isAgg4
 z4:=Tryz.sizeOf4
 v4:=Tryz.zeroValue4
 t9:=Tryz.underlying9
 a9:=Tryz.isAgg9
 z9:=Tryz.sizeOf9
 v9:=Tryz.zeroValue9
 t20:=Tryz.underlying20
 a20:=Tryz.isAgg20
 z20:=Tryz.sizeOf20
 v20:=Tryz.zeroValue20
 t31:=Tryz.underlying108
 a31:=Tryz.isAgg108
 z31:=Tryz.sizeOf108
 v31:=Tryz.zeroValue108
 t37:=Tryz.underlying132
 a37:=Tryz.isAgg132
 z37:=Tryz.sizeOf132
 v37:=Tryz.zeroValue132
 t70:=Tryz.underlying207
 a70:=Tryz.isAgg207
 z70:=Tryz.sizeOf207
 v70:=Tryz.zeroValue207
 t72:=Tryz.underlying209
 a72:=Tryz.isAgg209
 z72:=Tryz.sizeOf209
 v72:=Tryz.zeroValue209
 t75:=Tryz.underlying212
 a75:=Tryz.isAgg212
 z75:=Tryz.sizeOf212
 v75:=Tryz.zeroValue212
 t76:=Tryz.underlying213
 a76:=Tryz.isAgg213
 z76:=Tryz.sizeOf213
 v76:=Tryz.zeroValue213
 t127:=Tryz.underlying222
 a127:=Tryz.isAgg222
 z127:=Tryz.sizeOf222
 v127:=Tryz.zeroValue222
 t164:=Tryz.underlying226
 a164:=Tryz.isAgg226
 z164:=Tryz.sizeOf226
 v164:=Tryz.zeroValue226 }
theorem Tryz.Builder_Extra_156:Builder.Extra Tryz.prog Tryz.lays156_ren:={
 sizeBuilder:=by kernel_rfl
 liesBuilder:=by kernel_rfl
 t5:=Tryz.underlying5
 a5:=Tryz.isAgg5
 z5:=Tryz.sizeOf5
 v5:=Tryz.zeroValue5
 infoByte:=by kernel_rfl
 cellsByte:=by kernel_rfl
 sizeByte:=by kernel_rfl
 neB5:=by decide }
open Go.RowKit in
theorem Tryz.strings_Join_none (a:Option Addr)(c:Nat)(b:ByteArray)(w:World):
  Calls Tryz.prog 156 #[.slice a 0 c,.string b] w fun e w'=>e = .returned (.string ⟨#[]⟩)∧w'=w:=Any.strings_Join_none Tryz.lays156 Tryz.Builder_Extra_156 a c b w
open Go.RowKit in
theorem Tryz.strings_Join (f o c:Nat)(xs:List ByteArray)(a:ByteArray)(w:World)(b:∀(j:Nat) x,xs[j]?=some x→w.cell? ⟨f,o+j,none⟩=some (.string x))(g:f<w.heap.size)(h:xs.length≤140737488355328)(hcap:xs.length≤c)(d:(Lib.join (xs.map (·.data.toList)) a.data.toList).length≤140737488355328):
  Calls Tryz.prog 156 #[.slice (some ⟨f,o,none⟩) xs.length c,.string a] w fun e w'=>e = .returned (.string ⟨(Lib.join (xs.map (·.data.toList)) a.data.toList).toArray⟩)∧Below w.heap.size w w':=Any.strings_Join Tryz.lays156 Tryz.Builder_Extra_156 f o c xs a w b g h hcap d
def Tryz.lays103_ren:Go.Shelf.Ren:=⟨fun| 103=>174| 210=>183| 206=>192|n=>n,fun| 9=>9| 4=>4| 24=>139| 3=>3|n=>n,fun|n=>n⟩
theorem Tryz.lays103:Go.Proofs.Lays.n103 Tryz.prog Tryz.lays103_ren:={
 mixed:=by kernel_rfl
 f103:=Tryz.func174.trans (congrArg some (by kernel_rfl))
 f206:=Tryz.func192.trans (congrArg some (by kernel_rfl))
 f210:=Tryz.func183.trans (congrArg some (by kernel_rfl))
 t3:=Tryz.underlying3
 a3:=Tryz.isAgg3
 z3:=Tryz.sizeOf3
 v3:=Tryz.zeroValue3
 t4:=Tryz.underlying4
 a4:=Tryz.isAgg4
 z4:=Tryz.sizeOf4
 v4:=Tryz.zeroValue4
 t9:=Tryz.underlying9
 a9:=Tryz.isAgg9
 z9:=Tryz.sizeOf9
 v9:=Tryz.zeroValue9
 t24:=Tryz.underlying139
 a24:=Tryz.isAgg139
 z24:=Tryz.sizeOf139
 v24:=Tryz.zeroValue139 }
open Go.RowKit in
theorem Tryz.strings_CutPrefix (s p:ByteArray)(w:World):
  Calls Tryz.prog 174 #[.string s,.string p] w fun e w'=>e = .returned (.tuple #[.string ⟨(Lib.trimPrefix s.data.toList p.data.toList).toArray⟩,.bool (Lib.hasPrefix s.data.toList p.data.toList)])∧w'=w:=Any.strings_CutPrefix Tryz.lays103 s p w
def Tryz.laysM171_ren:Go.Shelf.Ren:=⟨fun| 171=>168| 243=>177| 246=>185| 283=>193| 284=>194| 285=>195| 286=>196| 129=>146| 317=>202| 318=>203| 319=>204| 320=>205| 337=>208| 338=>209|n=>n,fun| 3=>3| 9=>9| 2=>2| 4=>4| 171=>233| 0=>0| 53=>186| 37=>132| 5=>5| 173=>235| 212=>239| 51=>184| 20=>20| 213=>240| 46=>168| 232=>247| 233=>248|n=>n,fun| 17=>1| 18=>4| 19=>5|n=>n⟩
theorem Tryz.laysM171:Go.Proofs.LaysM.n171 Tryz.prog Tryz.laysM171_ren:={
 mixed:=by kernel_rfl
 f129:=Tryz.func146.trans (congrArg some (by kernel_rfl))
 f171:=Tryz.func168.trans (congrArg some (by kernel_rfl))
 f243:=Tryz.func177.trans (congrArg some (by kernel_rfl))
 f246:=Tryz.func185.trans (congrArg some (by kernel_rfl))
 f283:=Tryz.func193.trans (congrArg some (by kernel_rfl))
 f284:=Tryz.func194.trans (congrArg some (by kernel_rfl))
 f285:=Tryz.func195.trans (congrArg some (by kernel_rfl))
 f286:=Tryz.func196.trans (congrArg some (by kernel_rfl))
 f317:=Tryz.func202.trans (congrArg some (by kernel_rfl))
 f318:=Tryz.func203.trans (congrArg some (by kernel_rfl))
 f319:=Tryz.func204.trans (congrArg some (by kernel_rfl))
 f320:=Tryz.func205.trans (congrArg some (by kernel_rfl))
 f337:=Tryz.func208.trans (congrArg some (by kernel_rfl))
 f338:=Tryz.func209.trans (congrArg some (by kernel_rfl))
 t0:=Tryz.underlying0
 a0:=Tryz.isAgg0
 z0:=Tryz.sizeOf0
 v0:=Tryz.zeroValue0
 t2:=Tryz.underlying2
 a2:=Tryz.isAgg2
 z2:=Tryz.sizeOf2
 v2:=Tryz.zeroValue2
 t3:=Tryz.underlying3
 a3:=Tryz.isAgg3
 z3:=Tryz.sizeOf3
 v3:=Tryz.zeroValue3
 t4:=Tryz.underlying4
 a4:=Tryz.isAgg4
 z4:=Tryz.sizeOf4
 v4:=Tryz.zeroValue4
 t5:=Tryz.underlying5
 a5:=Tryz.isAgg5
 z5:=Tryz.sizeOf5
 v5:=Tryz.zeroValue5
 t9:=Tryz.underlying9
 a9:=Tryz.isAgg9
 z9:=Tryz.sizeOf9
 v9:=Tryz.zeroValue9
 t20:=Tryz.underlying20
 a20:=Tryz.isAgg20
 z20:=Tryz.sizeOf20
 v20:=Tryz.zeroValue20
 t37:=Tryz.underlying132
 a37:=Tryz.isAgg132
 z37:=Tryz.sizeOf132
 v37:=Tryz.zeroValue132
 t46:=Tryz.underlying168
 a46:=Tryz.isAgg168
 z46:=Tryz.sizeOf168
 v46:=Tryz.zeroValue168
 t51:=Tryz.underlying184
 a51:=Tryz.isAgg184
 z51:=Tryz.sizeOf184
 v51:=Tryz.zeroValue184
 t53:=Tryz.underlying186
 a53:=Tryz.isAgg186
 z53:=Tryz.sizeOf186
 v53:=Tryz.zeroValue186
 t171:=Tryz.underlying233
 a171:=Tryz.isAgg233
 z171:=Tryz.sizeOf233
 v171:=Tryz.zeroValue233
 t173:=Tryz.underlying235
 a173:=Tryz.isAgg235
 z173:=Tryz.sizeOf235
 v173:=Tryz.zeroValue235
 t212:=Tryz.underlying239
 a212:=Tryz.isAgg239
 z212:=Tryz.sizeOf239
 v212:=Tryz.zeroValue239
 t213:=Tryz.underlying240
 a213:=Tryz.isAgg240
 z213:=Tryz.sizeOf240
 t232:=Tryz.underlying247
 a232:=Tryz.isAgg247
 z232:=Tryz.sizeOf247
 v232:=Tryz.zeroValue247
 t233:=Tryz.underlying248
 a233:=Tryz.isAgg248
 z233:=Tryz.sizeOf248
 v233:=Tryz.zeroValue248
 g17:=by kernel_rfl
 g18:=by kernel_rfl
 g19:=by kernel_rfl
 i0:=by kernel_rfl
 i2:=by kernel_rfl
 i3:=by kernel_rfl
 i4:=by kernel_rfl
 i5:=by kernel_rfl
 i9:=by kernel_rfl
 i20:=by kernel_rfl
 i37:=by kernel_rfl
 i46:=by kernel_rfl
 i51:=by kernel_rfl
 i53:=by kernel_rfl
 i171:=by kernel_rfl
 i173:=by kernel_rfl
 i212:=by kernel_rfl
 i232:=by kernel_rfl
 i233:=by kernel_rfl
 m17:=by kernel_rfl
 m18:=by kernel_rfl
 m19:=by kernel_rfl }
open Go.RowKit Go.Sort Go.Lib in
theorem Tryz.strconv_Itoa (n : Int) (b : -9223372036854775808 ≤ n) (c : n ≤ 9223372036854775807) (w : World) (a : Lib.TabIs Tryz.prog w "internal/strconv.uint64pow10" .u64 Lib.pow10Tab) :
  Calls Tryz.prog 168 #[.int .i64 n] w fun e w'=>e = .returned (.string ⟨(Lib.itoa n).toArray⟩)∧∃k os,w'=grow (w.drewN k) os:=Any.strconv_Itoa Tryz.laysM171 n b c w a
def Tryz.lays145_ren:Go.Shelf.Ren:=⟨fun| 145=>176| 220=>184| 219=>191| 217=>198| 225=>199| 224=>200| 267=>201| 266=>206| 314=>207|n=>n,fun| 9=>9| 4=>4| 59=>220| 3=>3| 5=>5| 46=>168| 146=>245| 51=>184|n=>n,fun| 1=>0|n=>n⟩
theorem Tryz.lays145:Go.Proofs.Lays.n145 Tryz.prog Tryz.lays145_ren:={
 mixed:=by kernel_rfl
 f145:=Tryz.func176.trans (congrArg some (by kernel_rfl))
 f217:=Tryz.func198.trans (congrArg some (by kernel_rfl))
 f219:=Tryz.func191.trans (congrArg some (by kernel_rfl))
 f220:=Tryz.func184.trans (congrArg some (by kernel_rfl))
 f224:=Tryz.func200.trans (congrArg some (by kernel_rfl))
 f225:=Tryz.func199.trans (congrArg some (by kernel_rfl))
 f266:=Tryz.func206.trans (congrArg some (by kernel_rfl))
 f267:=Tryz.func201.trans (congrArg some (by kernel_rfl))
 f314:=Tryz.func207.trans (congrArg some (by kernel_rfl))
 t3:=Tryz.underlying3
 a3:=Tryz.isAgg3
 z3:=Tryz.sizeOf3
 v3:=Tryz.zeroValue3
 t4:=Tryz.underlying4
 a4:=Tryz.isAgg4
 z4:=Tryz.sizeOf4
 v4:=Tryz.zeroValue4
 t5:=Tryz.underlying5
 a5:=Tryz.isAgg5
 z5:=Tryz.sizeOf5
 v5:=Tryz.zeroValue5
 t9:=Tryz.underlying9
 a9:=Tryz.isAgg9
 z9:=Tryz.sizeOf9
 v9:=Tryz.zeroValue9
 t46:=Tryz.underlying168
 a46:=Tryz.isAgg168
 z46:=Tryz.sizeOf168
 v46:=Tryz.zeroValue168
 t51:=Tryz.underlying184
 a51:=Tryz.isAgg184
 z51:=Tryz.sizeOf184
 v51:=Tryz.zeroValue184
 t59:=Tryz.underlying220
 a59:=Tryz.isAgg220
 z59:=Tryz.sizeOf220
 v59:=Tryz.zeroValue220
 t146:=Tryz.underlying245
 a146:=Tryz.isAgg245
 z146:=Tryz.sizeOf245
 v146:=Tryz.zeroValue245
 g1:=by kernel_rfl }
open Go.RowKit Go.Lib in
theorem Tryz.strings_Cut (s a:ByteArray)(m:Int)(w:World)(hs:s.size<4294967281)(b:w.cell? ⟨0,0,none⟩=some (.int .i64 m)):
  Calls Tryz.prog 176 #[.string s,.string a] w fun e w'=>e = .returned (.tuple #[.string ⟨(Lib.cut s.data.toList a.data.toList).1.toArray⟩,.string ⟨(Lib.cut s.data.toList a.data.toList).2.1.toArray⟩,.bool (Lib.cut s.data.toList a.data.toList).2.2])∧∃n,w'=w.drewN n:=Any.strings_Cut Tryz.lays145 s a m w hs b
def Tryz.lays189_ren:Go.Shelf.Ren:=⟨fun| 189=>105| 125=>124| 257=>123| 128=>145| 129=>146| 294=>136| 295=>137| 296=>138| 297=>139| 298=>140| 299=>141| 216=>142| 300=>143| 301=>144| 328=>157| 329=>158| 330=>159| 331=>160| 332=>161| 215=>162| 343=>172|n=>n,fun| 28=>88| 3=>3| 46=>168| 0=>0| 51=>184| 53=>186| 4=>4| 183=>177| 182=>176| 131=>181| 5=>5| 9=>9| 218=>195| 222=>199| 228=>216| 229=>204|n=>n,fun|n=>n⟩
theorem Tryz.lays189:Go.Proofs.Lays.n189 Tryz.prog Tryz.lays189_ren:={
 mixed:=by kernel_rfl
 f125:=Tryz.func124.trans (congrArg some (by kernel_rfl))
 f128:=Tryz.func145.trans (congrArg some (by kernel_rfl))
 f129:=Tryz.func146.trans (congrArg some (by kernel_rfl))
 f189:=Tryz.func105.trans (congrArg some (by kernel_rfl))
 f215:=Tryz.func162.trans (congrArg some (by kernel_rfl))
 f216:=Tryz.func142.trans (congrArg some (by kernel_rfl))
 f257:=Tryz.func123.trans (congrArg some (by kernel_rfl))
 f294:=Tryz.func136.trans (congrArg some (by kernel_rfl))
 f295:=Tryz.func137.trans (congrArg some (by kernel_rfl))
 f296:=Tryz.func138.trans (congrArg some (by kernel_rfl))
 f297:=Tryz.func139.trans (congrArg some (by kernel_rfl))
 f298:=Tryz.func140.trans (congrArg some (by kernel_rfl))
 f299:=Tryz.func141.trans (congrArg some (by kernel_rfl))
 f300:=Tryz.func143.trans (congrArg some (by kernel_rfl))
 f301:=Tryz.func144.trans (congrArg some (by kernel_rfl))
 f328:=Tryz.func157.trans (congrArg some (by kernel_rfl))
 f329:=Tryz.func158.trans (congrArg some (by kernel_rfl))
 f330:=Tryz.func159.trans (congrArg some (by kernel_rfl))
 f331:=Tryz.func160.trans (congrArg some (by kernel_rfl))
 f332:=Tryz.func161.trans (congrArg some (by kernel_rfl))
 f343:=Tryz.func172.trans (congrArg some (by kernel_rfl))
 t0:=Tryz.underlying0
 a0:=Tryz.isAgg0
 z0:=Tryz.sizeOf0
 v0:=Tryz.zeroValue0
 t3:=Tryz.underlying3
 a3:=Tryz.isAgg3
 z3:=Tryz.sizeOf3
 v3:=Tryz.zeroValue3
 t4:=Tryz.underlying4
 a4:=Tryz.isAgg4
 z4:=Tryz.sizeOf4
 v4:=Tryz.zeroValue4
 t5:=Tryz.underlying5
 a5:=Tryz.isAgg5
 z5:=Tryz.sizeOf5
 v5:=Tryz.zeroValue5
 t9:=Tryz.underlying9
 a9:=Tryz.isAgg9
 z9:=Tryz.sizeOf9
 v9:=Tryz.zeroValue9
 t28:=Tryz.underlying88
 a28:=Tryz.isAgg88
 z28:=Tryz.sizeOf88
 v28:=Tryz.zeroValue88
 t46:=Tryz.underlying168
 a46:=Tryz.isAgg168
 z46:=Tryz.sizeOf168
 v46:=Tryz.zeroValue168
 t51:=Tryz.underlying184
 a51:=Tryz.isAgg184
 z51:=Tryz.sizeOf184
 v51:=Tryz.zeroValue184
 t53:=Tryz.underlying186
 a53:=Tryz.isAgg186
 z53:=Tryz.sizeOf186
 v53:=Tryz.zeroValue186
 t131:=Tryz.underlying181
 a131:=Tryz.isAgg181
 z131:=Tryz.sizeOf181
 v131:=Tryz.zeroValue181
 t182:=Tryz.underlying176
 a182:=Tryz.isAgg176
 z182:=Tryz.sizeOf176
 v182:=Tryz.zeroValue176
 t183:=Tryz.underlying177
 a183:=Tryz.isAgg177
 z183:=Tryz.sizeOf177
 v183:=Tryz.zeroValue177
 t218:=Tryz.underlying195
 a218:=Tryz.isAgg195
 z218:=Tryz.sizeOf195
 v218:=Tryz.zeroValue195
 t222:=Tryz.underlying199
 a222:=Tryz.isAgg199
 z222:=Tryz.sizeOf199
 v222:=Tryz.zeroValue199
 t228:=Tryz.underlying216
 a228:=Tryz.isAgg216
 z228:=Tryz.sizeOf216
 v228:=Tryz.zeroValue216
 t229:=Tryz.underlying204
 a229:=Tryz.isAgg204
 z229:=Tryz.sizeOf204
 v229:=Tryz.zeroValue204 }
open Go.Sort Go.RowKit in
theorem Tryz.slices_Sort_int (a off cap:Nat)(b:List Int)(w:World)(f:Holds (Value.int .i64) w a off b.toArray)(c:a<w.heap.size)(d:b.length<4611686018427387904):
  Calls Tryz.prog 105 #[.slice (some ⟨a,off,none⟩) b.length cap] w fun e w' =>e = .returned (.tuple #[])∧∃n os,w'=grow (putRow (Value.int .i64) (Sort.ahead w n) a off (b.mergeSort fun x y=>decide (x≤y)).toArray) os:=Any.slices_Sort_int Tryz.lays189 a off cap b w f c d
def Tryz.lays146_ren:Go.Shelf.Ren:=⟨fun| 146=>163| 221=>173| 268=>180| 138=>181| 143=>182| 195=>188| 197=>189| 218=>190| 219=>191| 260=>197| 217=>198| 225=>199| 224=>200| 267=>201| 266=>206| 314=>207|n=>n,fun| 9=>9| 31=>108| 3=>3| 4=>4| 0=>0| 105=>229| 21=>21| 5=>5| 46=>168| 119=>241| 139=>244| 138=>243| 146=>245| 51=>184|n=>n,fun| 1=>0| 3=>2| 4=>3|n=>n⟩
theorem Tryz.lays146:Go.Proofs.Lays.n146 Tryz.prog Tryz.lays146_ren:={
 mixed:=by kernel_rfl
 f138:=Tryz.func181.trans (congrArg some (by kernel_rfl))
 f143:=Tryz.func182.trans (congrArg some (by kernel_rfl))
 f146:=Tryz.func163.trans (congrArg some (by kernel_rfl))
 f195:=Tryz.func188.trans (congrArg some (by kernel_rfl))
 f197:=Tryz.func189.trans (congrArg some (by kernel_rfl))
 f217:=Tryz.func198.trans (congrArg some (by kernel_rfl))
 f218:=Tryz.func190.trans (congrArg some (by kernel_rfl))
 f219:=Tryz.func191.trans (congrArg some (by kernel_rfl))
 f221:=Tryz.func173.trans (congrArg some (by kernel_rfl))
 f224:=Tryz.func200.trans (congrArg some (by kernel_rfl))
 f225:=Tryz.func199.trans (congrArg some (by kernel_rfl))
 f260:=Tryz.func197.trans (congrArg some (by kernel_rfl))
 f266:=Tryz.func206.trans (congrArg some (by kernel_rfl))
 f267:=Tryz.func201.trans (congrArg some (by kernel_rfl))
 f268:=Tryz.func180.trans (congrArg some (by kernel_rfl))
 f314:=Tryz.func207.trans (congrArg some (by kernel_rfl))
 t0:=Tryz.underlying0
 a0:=Tryz.isAgg0
 z0:=Tryz.sizeOf0
 v0:=Tryz.zeroValue0
 t3:=Tryz.underlying3
 a3:=Tryz.isAgg3
 z3:=Tryz.sizeOf3
 v3:=Tryz.zeroValue3
 t4:=Tryz.underlying4
 a4:=Tryz.isAgg4
 z4:=Tryz.sizeOf4
 v4:=Tryz.zeroValue4
 t5:=Tryz.underlying5
 a5:=Tryz.isAgg5
 z5:=Tryz.sizeOf5
 v5:=Tryz.zeroValue5
 t9:=Tryz.underlying9
 a9:=Tryz.isAgg9
 z9:=Tryz.sizeOf9
 v9:=Tryz.zeroValue9
 t21:=Tryz.underlying21
 a21:=Tryz.isAgg21
 z21:=Tryz.sizeOf21
 v21:=Tryz.zeroValue21
 t31:=Tryz.underlying108
 a31:=Tryz.isAgg108
 z31:=Tryz.sizeOf108
 v31:=Tryz.zeroValue108
 t46:=Tryz.underlying168
 a46:=Tryz.isAgg168
 z46:=Tryz.sizeOf168
 v46:=Tryz.zeroValue168
 t51:=Tryz.underlying184
 a51:=Tryz.isAgg184
 z51:=Tryz.sizeOf184
 v51:=Tryz.zeroValue184
 t105:=Tryz.underlying229
 a105:=Tryz.isAgg229
 z105:=Tryz.sizeOf229
 v105:=Tryz.zeroValue229
 t119:=Tryz.underlying241
 a119:=Tryz.isAgg241
 z119:=Tryz.sizeOf241
 t138:=Tryz.underlying243
 a138:=Tryz.isAgg243
 z138:=Tryz.sizeOf243
 v138:=Tryz.zeroValue243
 t139:=Tryz.underlying244
 a139:=Tryz.isAgg244
 z139:=Tryz.sizeOf244
 v139:=Tryz.zeroValue244
 t146:=Tryz.underlying245
 a146:=Tryz.isAgg245
 z146:=Tryz.sizeOf245
 v146:=Tryz.zeroValue245
 g1:=by kernel_rfl
 g3:=by kernel_rfl
 g4:=by kernel_rfl }
open Go.RowKit Go.Lib in
theorem Tryz.strings_Split (s a:ByteArray)(m:Int)(w:World)(hs:s.size<4294967281)(b:w.cell? ⟨0,0,none⟩=some (.int .i64 m))(c:1≤a.size):
  Calls Tryz.prog 163 #[.string s,.string a] w fun e w' =>e = .returned (.slice (some ⟨w.heap.size,0,none⟩) (Lib.countB s a+1) (Lib.countB s a+1))∧w'=w.alloc (.cells ((Lib.splitB a 0 (Lib.countB s a) s).map Value.string).toArray 9):=Any.strings_Split Tryz.lays146 (by kernel_rfl) s a m w hs b c
def Tryz.laysNm220_ren:Go.Shelf.Ren:=⟨fun| 20=>167|n=>n,fun| 22=>88| 3=>3| 4=>4| 0=>0|n=>n,fun|n=>n⟩
theorem Tryz.laysNm220:Go.Proofs.Lays2.n20 Tryz.prog Tryz.laysNm220_ren:={
 mixed:=by kernel_rfl
 f20:=Tryz.func167.trans (congrArg some (by kernel_rfl))
 t0:=Tryz.underlying0
 a0:=Tryz.isAgg0
 z0:=Tryz.sizeOf0
 v0:=Tryz.zeroValue0
 t3:=Tryz.underlying3
 a3:=Tryz.isAgg3
 z3:=Tryz.sizeOf3
 v3:=Tryz.zeroValue3
 t4:=Tryz.underlying4
 a4:=Tryz.isAgg4
 z4:=Tryz.sizeOf4
 v4:=Tryz.zeroValue4
 t22:=Tryz.underlying88
 a22:=Tryz.isAgg88
 z22:=Tryz.sizeOf88
 v22:=Tryz.zeroValue88
 i3:=by kernel_rfl }
open Go.RowKit Go.Lib Go.Sort in
theorem Tryz.slices_Compact_int (a off cap:Nat)(b:List Int)(w:World)(d:Holds (Value.int .i64) w a off b.toArray)(c:b.length≤9223372036854775807)(hcap:b.length≤cap):
  Calls Tryz.prog 167 #[.slice (some ⟨a,off,none⟩) b.length cap] w fun e w'=>e = .returned (.slice (some ⟨a,off,none⟩) (Lib.compact b).length cap)∧∃q,w'=putRow (Value.int .i64) (Sort.ahead w q) a off (Lib.compact b++List.replicate (b.length-(Lib.compact b).length) 0).toArray:=Any.slices_Compact_int Tryz.laysNm220 a off cap b w d c hcap
open Go.RowKit Go.Lib Go.Sort in
theorem Tryz.slices_Compact_int_empty (a:Option Addr)(cap:Nat)(w:World):
  Calls Tryz.prog 167 #[.slice a 0 cap] w fun e w'=>e = .returned (.slice a 0 cap)∧w'=w:=Any.slices_Compact_int_empty Tryz.laysNm220 a cap w
open Go.RowKit Go.Sort in
theorem Tryz.slices_Sort_int_none (p:Option Addr)(cap:Nat)(w:World):
  Calls Tryz.prog 105 #[.slice p 0 cap] w fun e w'=>e = .returned (.tuple #[])∧w'=w:=Any.slices_Sort_int_none Tryz.lays189 p cap w
end
end Go.Proofs.YtlgddjncnedkgaaGreatDoor.Am
