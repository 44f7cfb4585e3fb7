/- Plain laws of texts, and the library's functions. -/
import Derived.Lib.SplitLaws
import Derived.Lib.SlicesCompact
import Derived.Lib.ItoaNum
import Derived.Lib.Join
import Derived.Shelf.Strings.Builder1
import Derived.Shelf.Strings.Builder2
import Derived.Shelf.Strings.OnBuilder
import Derived.Shelf.Small.Bits
import Derived.Shelf.Small.Wraps
import Derived.Shelf.Strings.BuilderF
import Derived.Shelf.Strings.BuilderK
import Derived.Shelf.Utf8.RuneCount
import Derived.Shelf.Strings.Builder2Cap
import Derived.Shelf.Strconv.Itoa0
import Derived.Shelf.Strconv.Itoa1
import Derived.Shelf.LaysM
import Derived.Shelf.Strconv.Itoa2
import Derived.Shelf.Strconv.Itoa3
import Derived.Shelf.Strings.Search1
import Derived.Shelf.Strings.Search2
import Derived.Shelf.Strings.Search3
import Derived.Shelf.Strings.Cut
import Derived.Shelf.Strings.Count
import Derived.Shelf.Strings.Shaped
import Derived.Shelf.Sort.Plain
import Derived.Shelf.Strings.Prefix
import Derived.Shelf.Strings.Split
import Derived.Shelf.Strings.SplitShaped
import Derived.Shelf.Unicode.Decode
import Derived.Shelf.Strings.RuneCount
import Derived.Shelf.Strings.Explode
import Derived.Shelf.Unicode.DecodeSlow
import Derived.Shelf.Unicode.DecodeAny
import Derived.Shelf.Strings.BuilderCap
import Derived.Shelf.Slices.Turned
import Derived.Ground.Names2Prog
import Derived.Shelf.Slices.CompactI
import Derived.Shelf.Slices.SearchI
import Derived.Shelf.Slices.Cells
import Derived.Shelf.Slices.In.SortNone
import Derived.Ground.SlgnProg
import Derived.Shelf.SlicesE.Compact
import Derived.Test.YtjikhkndmohepaaGreatDoorProg
namespace Go.Proofs.YtjikhkndmohepaaGreatDoor.Am
open Go
set_option linter.unusedVariables false
set_option linter.unusedSimpArgs false
def cd (c:UInt8):List UInt8→List (List UInt8)
 |[]=>[[]]
 |b::l=>if b=c then []::cd c l else(match cd c l with|[]=>[[b]]|x::xs=>(b::x)::xs)
def jN (p:List UInt8):List (List UInt8)→List (List UInt8)|[]=>[p]|x::xs=>(p++x)::xs
theorem jQ (c:UInt8)(l:List UInt8):∃x xs,cd c l=x::xs:=by
 cases l with
 |nil=>exact⟨_,_,rfl⟩
 |cons b l =>
  unfold cd;split
  ·exact⟨_,_,rfl⟩
  ·split<;>exact⟨_,_,rfl⟩
theorem uv (c:UInt8)(l:List UInt8):cd c (c::l)=[]::cd c l:=by
 conv=>lhs;unfold cd
 rw[if_pos rfl]
theorem pp {b c:UInt8}(h:b≠c)(l:List UInt8):cd c (b::l)=jN [b] (cd c l):=by
 conv=>lhs;unfold cd
 rw[if_neg h];obtain⟨x,xs,e⟩:=jQ c l;rw[e];rfl
theorem xW (l:List (List UInt8))(h:∃x xs,l=x::xs):jN [] l=l:=by obtain⟨x,xs,rfl⟩:=h;rfl
theorem GX (p q:List UInt8)(l:List (List UInt8))(h:∃x xs,l=x::xs):jN p (jN q l)=jN (p++q) l:=by obtain⟨x,xs,rfl⟩:=h;simp[jN]
theorem wP {c:UInt8}:∀{l:List UInt8},c∉l→cd c l=[l]
 |[],_=>rfl
 |b::l,h=>by simp only[List.mem_cons,not_or]at h;rw[pp (Ne.symm h.1),wP h.2];rfl
theorem CQ {c:UInt8}(b:List UInt8):∀{a:List UInt8},c∉a→cd c (a++c::b)=a::cd c b
 |[],_=>uv c b
 |x::a,h=>by simp only[List.mem_cons,not_or]at h;rw[List.cons_append,pp (Ne.symm h.1),CQ b h.2];rfl
theorem Az (c:UInt8):∀s:List UInt8,(Lib.index s [c]= -1∧c∉s)∨∃a b,s=a++c::b∧c∉a∧Lib.index s [c]=(a.length:Int)
 |[]=>.inl ⟨rfl,by simp⟩
 |x::s=>by
  unfold Lib.index;by_cases h:c=x
  ·subst h;exact .inr ⟨[],s,rfl,by simp,by simp⟩
  ·have f:[c].isPrefixOf (x::s)=false:=by simp[List.isPrefixOf,h]
   rw[f];rcases Az c s with⟨d,e⟩|⟨a,b,d,e,g⟩
   ·refine .inl ⟨by rw[d];rfl,?_⟩;simp only[List.mem_cons,not_or];exact⟨h,e⟩
   ·refine .inr ⟨x::a,b,by rw[d];rfl,?_,?_⟩
    ·simp only[List.mem_cons,not_or];exact⟨h,e⟩
    ·rw[g];have:((a.length:Int)== -1)=false:=by rw[beq_eq_false_iff_ne];omega
     simp[this]
theorem CI (c:UInt8):∀(k:Nat)(s:List UInt8),s.count c=k→Lib.splitK [c] 0 k s=cd c s
 | 0,s,h=>by rw[wP (List.count_eq_zero.1 h)];rfl
 |k+1,s,h=>by
  rcases Az c s with⟨f,d⟩|⟨a,b,f,d,g⟩
  ·rw[List.count_eq_zero.2 d]at h;omega
  ·unfold Lib.splitK;have:((a.length:Int)== -1)=false:=by rw[beq_eq_false_iff_ne];omega
   rw[g,this];subst f;simp only[Int.toNat_natCast,Nat.add_zero,Bool.false_eq_true,if_false,List.take_left',List.length_singleton];have e:(a++c::b).drop (a.length+1)=b:=by rw[show a++c::b=(a++[c])++b by simp];exact List.drop_left' (by simp)
   have hc:b.count c=k:=by rw[List.count_append,List.count_cons_self,List.count_eq_zero.2 d]at h;omega
   rw[e,CI c k b hc,CQ b d]
def tx (s:ByteArray):List UInt8:=s.data.toList
def ofTx (l:List UInt8):ByteArray:=⟨l.toArray⟩
theorem xj (s:ByteArray):ofTx (tx s)=s:=rfl
theorem xz (l:List UInt8):tx (ofTx l)=l:=rfl
theorem sG {a b:ByteArray}(h:tx a=tx b):a=b:=by rw[←xj a, ←xj b,h]
theorem SK (l:List ByteArray):(l.map tx).map ofTx=l:=by
 induction l with
 |nil=>rfl
 |cons x l a=>rw[List.map_cons,List.map_cons,a,xj]
theorem dQ (s:ByteArray):s.size=(tx s).length:=by rw[ByteArray.size];simp[tx]
theorem Nz (s:ByteArray)(c:UInt8):Lib.splitB ⟨#[c]⟩ 0 (Lib.countB s ⟨#[c]⟩) s=(cd c (tx s)).map ofTx:=by rw[←SK (Lib.splitB _ _ _ _)];congr 1;have h:=Lib.splitB_data ⟨#[c]⟩ 0 (Lib.countB s ⟨#[c]⟩) s;refine h.trans ?_;refine CI c _ _ ?_;have:Lib.countB s ⟨#[c]⟩=Lib.count s.data.toList [c]:=rfl;rw[this,Lib.count_one]
theorem Jq (s:List UInt8)(c:UInt8):(c∉s∧Lib.cut s [c]=(s,[],false)∧cd c s=[s])∨∃a b,s=a++c::b∧c∉a∧Lib.cut s [c]=(a,b,true)∧cd c s=a::cd c b:=by
 rcases Az c s with⟨d,f⟩|⟨a,b,d,f,g⟩
 ·refine .inl ⟨f,?_,wP f⟩;unfold Lib.cut;rw[d];rfl
 ·refine .inr ⟨a,b,d,f,?_,by rw[d];exact CQ b f⟩;unfold Lib.cut;rw[g,if_pos (by omega),d];have e:(a++c::b).drop (a.length+1)=b:=by rw[show a++c::b=(a++[c])++b by simp];exact List.drop_left' (by simp)
  simp only[Int.toNat_natCast,List.length_singleton,List.take_left' rfl,e]
theorem RR (a b:ByteArray):tx (a++b)=tx a++tx b:=by simp[tx]
theorem ru (a b:List UInt8):ofTx a++ofTx b=ofTx (a++b):=by apply sG;rw[RR];rfl
theorem sC (l:List UInt8):(ofTx l).size=l.length:=dQ _
def seg (s:List UInt8)(a b:Nat):List UInt8:=(s.take b).drop a
theorem E3 (s:ByteArray)(a b:Nat):tx (s.extract a b)=seg (tx s) a b:=by unfold tx seg;rw[ByteArray.data_extract,Array.toList_extract,List.extract_eq_take_drop,List.drop_take]
theorem ol (s:ByteArray)(a b:Nat):s.extract a b=ofTx (seg (tx s) a b):=sG (E3 s a b)
theorem u6 (s:List UInt8)(a:Nat):seg s a a=[]:=by unfold seg;simp
theorem Ls {s:List UInt8}{a i:Nat}{b:UInt8}(c:a≤i)(h:s[i]?=some b):seg s a (i+1)=seg s a i++[b]:=by
 unfold seg;have hi:i<s.length:=by
  rcases Nat.lt_or_ge i s.length with g|g
  ·exact g
  ·rw[List.getElem?_eq_none g]at h;cases h
 rw[List.take_add_one,h,List.drop_append_of_le_length (by simp;omega)];rfl
theorem N8 {s:List UInt8}{a i:Nat}(b:a≤i)(hi:i≤s.length):(seg s a i).isEmpty=decide (a=i):=by
 have:(seg s a i).length=i-a:=by unfold seg;simp;omega
 by_cases h:a=i
 ·subst h;rw[u6];simp
 ·rw[decide_eq_false h];cases q:seg s a i with
  |nil=>rw[q]at this;simp at this;omega
  |cons x l=>rfl
theorem CR (c:UInt8):∀l,(cd c l).length≤l.length+1
 |[]=>by simp[cd]
 |b::l=>by
  have:=CR c l;by_cases h:b=c
  ·subst h;rw[uv];simp;exact this
  ·rw[pp h];obtain⟨x,xs,e⟩:=jQ c l;rw[e]at this ⊢;simp[jN]at this ⊢;omega
theorem CS (c:UInt8):∀l,∀x∈cd c l,x.length≤l.length
 |[],x,h=>by simp[cd]at h;subst h;simp
 |b::l,x,h=>by
  have a:=CS c l;by_cases q:b=c
  ·subst q;rw[uv]at h;rcases List.mem_cons.1 h with rfl|h
   ·simp
   ·have:=a x h;simp;omega
  ·rw[pp q]at h;obtain⟨y,ys,e⟩:=jQ c l;rw[e]at h a;simp only[jN]at h;rcases List.mem_cons.1 h with rfl|h
   ·have:=a y (by simp);simp;omega
   ·have:=a x (by simp[h]);simp;omega
theorem Fe (s:ByteArray):s.toList=tx s:=ByteArray.toList_eq s
theorem hJ (a b:ByteArray):(a.toList==b.toList)=decide (tx a=tx b):=by
 rw[Fe,Fe];by_cases h:tx a=tx b
 ·rw[h];simp
 ·rw[decide_eq_false h];simpa using h
theorem LY (u:Nat)(h:0<u):Lib.decDigits u=(if u/10=0 then []else Lib.decDigits (u/10))++[UInt8.ofNat (48+u % 10)]:=by
 by_cases q:u<10
 ·rw[Lib.decDigits,dif_pos q,if_pos (by omega),show u % 10=u by omega];rfl
 ·conv=>lhs;rw[Lib.decDigits]
  rw[dif_neg q,if_neg (by omega)]
theorem xP:∀(d u:Nat),u<10 ^ (d+1)→(Lib.decDigits u).length≤d+1
 | 0,u,h=>by rw[Lib.decDigits,dif_pos (by simpa using h)];simp
 |d+1,u,h=>by
  rw[Lib.decDigits];split
  ·simp
  ·rw[List.length_append];have:=xP d (u/10) (by rw[Nat.pow_succ]at h;omega);simp;omega
theorem Bm:∀{l m:List Int},l.Pairwise (· < ·)→m.Pairwise (· < ·)→(∀x,x∈l↔x∈m)→l=m
 |[],[],_,_,_=>rfl
 |[],y::m,_,_,h=>by have:=(h y).2 (by simp);simp at this
 |x::l,[],_,_,h=>by have:=(h x).1 (by simp);simp at this
 |x::l,y::m,c,d,h=>by
  rw[List.pairwise_cons]at c d;have e:x=y:=by
   have a:=(h x).1 (by simp);have b:=(h y).2 (by simp);rcases List.mem_cons.1 a with a|a
   ·exact a
   ·rcases List.mem_cons.1 b with b|b
    ·exact b.symm
    ·have:=d.1 x a;have:=c.1 y b;omega
  subst e;congr 1;refine Bm c.2 d.2 fun z=>⟨fun hz=>?_,fun hz=>?_⟩
  ·rcases List.mem_cons.1 ((h z).1 (List.mem_cons_of_mem _ hz))with e|e
   ·have:=c.1 z hz;omega
   ·exact e
  ·rcases List.mem_cons.1 ((h z).2 (List.mem_cons_of_mem _ hz))with e|e
   ·have:=d.1 z hz;omega
   ·exact e
theorem GL (d:Array Int)(hs:∀i j,i≤j→j<d.size→d[i]! ≤ d[j]!):∀m,m≤d.size →
  (Lib.compactUpTo d m).Pairwise (· < ·)∧∀x,x∈Lib.compactUpTo d m↔∃j,j<m∧d[j]! = x
 | 0,_=>⟨by simp[Lib.compactUpTo],fun x=>by simp[Lib.compactUpTo]⟩
 |m+1,l=>by
  obtain⟨g,f⟩:=GL d hs m (by omega);rw[Lib.compactUpTo_succ];by_cases k:Lib.keeps d m=true
  ·rw[if_pos k];have k':m=0∨d[m]! ≠ d[m-1]! := by simpa[Lib.keeps]using k
   refine⟨?_,fun x=>?_⟩
   ·rw[List.pairwise_append];refine⟨g,by simp,fun a h b hb=>?_⟩;simp only[List.mem_singleton]at hb;subst hb;obtain⟨j,c,rfl⟩:=(f a).1 h;rcases k' with k'|k'
    ·omega
    ·have n:=hs j (m-1) (by omega) (by omega);have a2:=hs (m-1) m (by omega) (by omega);omega
   ·rw[List.mem_append,f,List.mem_singleton];constructor
    ·rintro(⟨j,c,e⟩|e)
     ·exact⟨j,by omega,e⟩
     ·exact⟨m,by omega,e.symm⟩
    ·rintro⟨j,c,e⟩;by_cases q:j=m
     ·subst q;exact .inr e.symm
     ·exact .inl ⟨j,by omega,e⟩
  ·rw[if_neg k,List.append_nil];have k':m≠0∧d[m]! = d[m-1]! := by rw[Bool.not_eq_true]at k;simpa[Lib.keeps]using k
   refine⟨g,fun x=>?_⟩;rw[f];constructor
   ·rintro⟨j,c,e⟩;exact⟨j,by omega,e⟩
   ·rintro⟨j,c,e⟩;by_cases q:j=m
    ·subst q;exact⟨j-1,by omega,by rw[←e,k'.2]⟩
    ·exact⟨j,by omega,e⟩
theorem Fh (l:List Int)(h:l.Pairwise (· ≤ ·)):(Lib.compact l).Pairwise (· < ·)∧∀x,x∈Lib.compact l↔x∈l:=by
 have hs:∀i j,i≤j→j<l.toArray.size→l.toArray[i]! ≤ l.toArray[j]! := fun i j c a=>by
  have b:j<l.length:=by simpa using a
  rw[getElem!_pos l.toArray i (by simp;omega),getElem!_pos l.toArray j a];simp only[List.getElem_toArray];by_cases e:i=j
  ·subst e;exact Int.le_refl _
  ·exact List.pairwise_iff_getElem.1 h i j (by omega) b (by omega)
 obtain⟨d,f⟩:=GL l.toArray hs l.length (by simp);refine⟨d,fun x=>(f x).trans ?_⟩;constructor
 ·rintro⟨j,a,e⟩;rw[getElem!_pos l.toArray j (by simpa using a)]at e;simp only[List.getElem_toArray]at e;rw[←e];exact List.getElem_mem _
 ·intro g;obtain⟨j,a,e⟩:=List.getElem_of_mem g;exact⟨j,a,by rw[getElem!_pos l.toArray j (by simpa using a)];simpa using e⟩
theorem Lw (l:List Int):(Lib.compact (l.mergeSort fun x y=>decide (x≤y))).Pairwise (· < ·)∧∀x,x∈Lib.compact (l.mergeSort fun x y=>decide (x≤y))↔x∈l:=by
 have hs:(l.mergeSort fun x y=>decide (x≤y)).Pairwise (· ≤ ·):=by have:=List.pairwise_mergeSort (le:=fun x y:Int=>decide (x≤y)) (fun a b c=>by simp;omega) (fun a b=>by simp;omega) l;exact this.imp fun h=>by simpa using h
 obtain⟨d,e⟩:=Fh _ hs;exact⟨d,fun x=>(e x).trans List.mem_mergeSort⟩
section
open Go.Proofs Go.Shelf
def Tryz.lays156_ren:Go.Shelf.Ren:=⟨fun| 156=>131| 165=>143| 166=>144| 169=>145| 240=>162| 241=>163| 276=>175| 277=>176|n=>n,fun| 31=>79| 9=>9| 3=>3| 4=>4| 0=>0| 20=>20| 72=>181| 76=>185| 70=>179| 37=>173| 75=>184| 127=>203| 164=>212| 5=>5| 80=>187|n=>n,fun|n=>n⟩
theorem Tryz.lays156:Go.Proofs.Lays.n156 Tryz.prog Tryz.lays156_ren:={
 mixed:=by kernel_rfl
 f156:=Tryz.func131.trans (congrArg some (by kernel_rfl))
 f165:=Tryz.func143.trans (congrArg some (by kernel_rfl))
 f166:=Tryz.func144.trans (congrArg some (by kernel_rfl))
 f169:=Tryz.func145.trans (congrArg some (by kernel_rfl))
 f240:=Tryz.func162.trans (congrArg some (by kernel_rfl))
 f241:=Tryz.func163.trans (congrArg some (by kernel_rfl))
 f276:=Tryz.func175.trans (congrArg some (by kernel_rfl))
 f277:=Tryz.func176.trans (congrArg some (by kernel_rfl))
 t0:=Tryz.underlying0
 a0:=Tryz.isAgg0
 z0:=Tryz.sizeOf0
 v0:=Tryz.zeroValue0
 t3:=Tryz.underlying3
 a3:=Tryz.isAgg3
 z3:=Tryz.sizeOf3
 v3:=Tryz.zeroValue3
 t4:=Tryz.underlying4
 a4:=Tryz.isAgg4
 z4:=Tryz.sizeOf4
 v4:=Tryz.zeroValue4
 t9:=Tryz.underlying9
 a9:=Tryz.isAgg9
 z9:=Tryz.sizeOf9
 v9:=Tryz.zeroValue9
 t20:=Tryz.underlying20
 a20:=Tryz.isAgg20
 z20:=Tryz.sizeOf20
 v20:=Tryz.zeroValue20
 t31:=Tryz.underlying79
 a31:=Tryz.isAgg79
 z31:=Tryz.sizeOf79
 v31:=Tryz.zeroValue79
 t37:=Tryz.underlying173
 a37:=Tryz.isAgg173
 z37:=Tryz.sizeOf173
 v37:=Tryz.zeroValue173
 t70:=Tryz.underlying179
 a70:=Tryz.isAgg179
 z70:=Tryz.sizeOf179
 v70:=Tryz.zeroValue179
 t72:=Tryz.underlying181
 a72:=Tryz.isAgg181
 z72:=Tryz.sizeOf181
 v72:=Tryz.zeroValue181
 t75:=Tryz.underlying184
 a75:=Tryz.isAgg184
 z75:=Tryz.sizeOf184
 v75:=Tryz.zeroValue184
 t76:=Tryz.underlying185
 a76:=Tryz.isAgg185
 z76:=Tryz.sizeOf185
 v76:=Tryz.zeroValue185
 t127:=Tryz.underlying203
 a127:=Tryz.isAgg203
 z127:=Tryz.sizeOf203
 v127:=Tryz.zeroValue203
 t164:=Tryz.underlying212
 a164:=Tryz.isAgg212
 z164:=Tryz.sizeOf212
 v164:=Tryz.zeroValue212 }
theorem Tryz.Builder_Extra_156:Builder.Extra Tryz.prog Tryz.lays156_ren:={
 sizeBuilder:=by kernel_rfl
 liesBuilder:=by kernel_rfl
 t5:=Tryz.underlying5
 a5:=Tryz.isAgg5
 z5:=Tryz.sizeOf5
 v5:=Tryz.zeroValue5
 infoByte:=by kernel_rfl
 cellsByte:=by kernel_rfl
 sizeByte:=by kernel_rfl
 neB5:=by decide }
open Go.RowKit in
theorem Tryz.strings_Join_none (a:Option Addr)(c:Nat)(b:ByteArray)(w:World):
  Calls Tryz.prog 131 #[.slice a 0 c,.string b] w fun e w'=>e = .returned (.string ⟨#[]⟩)∧w'=w:=Any.strings_Join_none Tryz.lays156 Tryz.Builder_Extra_156 a c b w
open Go.RowKit in
theorem Tryz.strings_Join (f o c:Nat)(xs:List ByteArray)(a:ByteArray)(w:World)(b:∀(j:Nat) x,xs[j]?=some x→w.cell? ⟨f,o+j,none⟩=some (.string x))(g:f<w.heap.size)(h:xs.length≤140737488355328)(hcap:xs.length≤c)(d:(Lib.join (xs.map (·.data.toList)) a.data.toList).length≤140737488355328):
  Calls Tryz.prog 131 #[.slice (some ⟨f,o,none⟩) xs.length c,.string a] w fun e w'=>e = .returned (.string ⟨(Lib.join (xs.map (·.data.toList)) a.data.toList).toArray⟩)∧Below w.heap.size w w':=Any.strings_Join Tryz.lays156 Tryz.Builder_Extra_156 f o c xs a w b g h hcap d
def Tryz.lays103_ren:Go.Shelf.Ren:=⟨fun| 103=>158| 210=>172| 206=>182|n=>n,fun| 9=>9| 4=>4| 24=>126| 3=>3|n=>n,fun|n=>n⟩
theorem Tryz.lays103:Go.Proofs.Lays.n103 Tryz.prog Tryz.lays103_ren:={
 mixed:=by kernel_rfl
 f103:=Tryz.func158.trans (congrArg some (by kernel_rfl))
 f206:=Tryz.func182.trans (congrArg some (by kernel_rfl))
 f210:=Tryz.func172.trans (congrArg some (by kernel_rfl))
 t3:=Tryz.underlying3
 a3:=Tryz.isAgg3
 z3:=Tryz.sizeOf3
 v3:=Tryz.zeroValue3
 t4:=Tryz.underlying4
 a4:=Tryz.isAgg4
 z4:=Tryz.sizeOf4
 v4:=Tryz.zeroValue4
 t9:=Tryz.underlying9
 a9:=Tryz.isAgg9
 z9:=Tryz.sizeOf9
 v9:=Tryz.zeroValue9
 t24:=Tryz.underlying126
 a24:=Tryz.isAgg126
 z24:=Tryz.sizeOf126
 v24:=Tryz.zeroValue126 }
open Go.RowKit in
theorem Tryz.strings_CutPrefix (s p:ByteArray)(w:World):
  Calls Tryz.prog 158 #[.string s,.string p] w fun e w'=>e = .returned (.tuple #[.string ⟨(Lib.trimPrefix s.data.toList p.data.toList).toArray⟩,.bool (Lib.hasPrefix s.data.toList p.data.toList)])∧w'=w:=Any.strings_CutPrefix Tryz.lays103 s p w
def Tryz.laysM171_ren:Go.Shelf.Ren:=⟨fun| 171=>142| 243=>161| 246=>174| 283=>183| 284=>184| 285=>185| 286=>186| 129=>156| 317=>192| 318=>193| 319=>194| 320=>195| 337=>198| 338=>199|n=>n,fun| 3=>3| 9=>9| 2=>2| 4=>4| 171=>221| 0=>0| 53=>198| 37=>173| 5=>5| 173=>223| 212=>227| 51=>196| 20=>20| 213=>228| 46=>169| 232=>235| 233=>236|n=>n,fun| 17=>1| 18=>4| 19=>5|n=>n⟩
theorem Tryz.laysM171:Go.Proofs.LaysM.n171 Tryz.prog Tryz.laysM171_ren:={
 mixed:=by kernel_rfl
 f129:=Tryz.func156.trans (congrArg some (by kernel_rfl))
 f171:=Tryz.func142.trans (congrArg some (by kernel_rfl))
 f243:=Tryz.func161.trans (congrArg some (by kernel_rfl))
 f246:=Tryz.func174.trans (congrArg some (by kernel_rfl))
 f283:=Tryz.func183.trans (congrArg some (by kernel_rfl))
 f284:=Tryz.func184.trans (congrArg some (by kernel_rfl))
 f285:=Tryz.func185.trans (congrArg some (by kernel_rfl))
 f286:=Tryz.func186.trans (congrArg some (by kernel_rfl))
 f317:=Tryz.func192.trans (congrArg some (by kernel_rfl))
 f318:=Tryz.func193.trans (congrArg some (by kernel_rfl))
 f319:=Tryz.func194.trans (congrArg some (by kernel_rfl))
 f320:=Tryz.func195.trans (congrArg some (by kernel_rfl))
 f337:=Tryz.func198.trans (congrArg some (by kernel_rfl))
 f338:=Tryz.func199.trans (congrArg some (by kernel_rfl))
 t0:=Tryz.underlying0
 a0:=Tryz.isAgg0
 z0:=Tryz.sizeOf0
 v0:=Tryz.zeroValue0
 t2:=Tryz.underlying2
 a2:=Tryz.isAgg2
 z2:=Tryz.sizeOf2
 v2:=Tryz.zeroValue2
 t3:=Tryz.underlying3
 a3:=Tryz.isAgg3
 z3:=Tryz.sizeOf3
 v3:=Tryz.zeroValue3
 t4:=Tryz.underlying4
 a4:=Tryz.isAgg4
 z4:=Tryz.sizeOf4
 v4:=Tryz.zeroValue4
 t5:=Tryz.underlying5
 a5:=Tryz.isAgg5
 z5:=Tryz.sizeOf5
 v5:=Tryz.zeroValue5
 t9:=Tryz.underlying9
 a9:=Tryz.isAgg9
 z9:=Tryz.sizeOf9
 v9:=Tryz.zeroValue9
 t20:=Tryz.underlying20
 a20:=Tryz.isAgg20
 z20:=Tryz.sizeOf20
 v20:=Tryz.zeroValue20
 t37:=Tryz.underlying173
 a37:=Tryz.isAgg173
 z37:=Tryz.sizeOf173
 v37:=Tryz.zeroValue173
 t46:=Tryz.underlying169
 a46:=Tryz.isAgg169
 z46:=Tryz.sizeOf169
 v46:=Tryz.zeroValue169
 t51:=Tryz.underlying196
 a51:=Tryz.isAgg196
 z51:=Tryz.sizeOf196
 v51:=Tryz.zeroValue196
 t53:=Tryz.underlying198
 a53:=Tryz.isAgg198
 z53:=Tryz.sizeOf198
 v53:=Tryz.zeroValue198
 t171:=Tryz.underlying221
 a171:=Tryz.isAgg221
 z171:=Tryz.sizeOf221
 v171:=Tryz.zeroValue221
 t173:=Tryz.underlying223
 a173:=Tryz.isAgg223
 z173:=Tryz.sizeOf223
 v173:=Tryz.zeroValue223
 t212:=Tryz.underlying227
 a212:=Tryz.isAgg227
 z212:=Tryz.sizeOf227
 v212:=Tryz.zeroValue227
 t213:=Tryz.underlying228
 a213:=Tryz.isAgg228
 z213:=Tryz.sizeOf228
 t232:=Tryz.underlying235
 a232:=Tryz.isAgg235
 z232:=Tryz.sizeOf235
 v232:=Tryz.zeroValue235
 t233:=Tryz.underlying236
 a233:=Tryz.isAgg236
 z233:=Tryz.sizeOf236
 v233:=Tryz.zeroValue236
 g17:=by kernel_rfl
 g18:=by kernel_rfl
 g19:=by kernel_rfl
 i0:=by kernel_rfl
 i2:=by kernel_rfl
 i3:=by kernel_rfl
 i4:=by kernel_rfl
 i5:=by kernel_rfl
 i9:=by kernel_rfl
 i20:=by kernel_rfl
 i37:=by kernel_rfl
 i46:=by kernel_rfl
 i51:=by kernel_rfl
 i53:=by kernel_rfl
 i171:=by kernel_rfl
 i173:=by kernel_rfl
 i212:=by kernel_rfl
 i232:=by kernel_rfl
 i233:=by kernel_rfl
 m17:=by kernel_rfl
 m18:=by kernel_rfl
 m19:=by kernel_rfl }
open Go.RowKit Go.Sort Go.Lib in
theorem Tryz.strconv_Itoa (n : Int) (b : -9223372036854775808 ≤ n) (c : n ≤ 9223372036854775807) (w : World) (a : Lib.TabIs Tryz.prog w "internal/strconv.uint64pow10" .u64 Lib.pow10Tab) :
  Calls Tryz.prog 142 #[.int .i64 n] w fun e w'=>e = .returned (.string ⟨(Lib.itoa n).toArray⟩)∧∃k os,w'=grow (w.drewN k) os:=Any.strconv_Itoa Tryz.laysM171 n b c w a
def Tryz.lays145_ren:Go.Shelf.Ren:=⟨fun| 145=>160| 220=>173| 219=>181| 217=>188| 225=>189| 224=>190| 267=>191| 266=>196| 314=>197|n=>n,fun| 9=>9| 4=>4| 59=>201| 3=>3| 5=>5| 46=>169| 146=>233| 51=>196|n=>n,fun| 1=>0|n=>n⟩
theorem Tryz.lays145:Go.Proofs.Lays.n145 Tryz.prog Tryz.lays145_ren:={
 mixed:=by kernel_rfl
 f145:=Tryz.func160.trans (congrArg some (by kernel_rfl))
 f217:=Tryz.func188.trans (congrArg some (by kernel_rfl))
 f219:=Tryz.func181.trans (congrArg some (by kernel_rfl))
 f220:=Tryz.func173.trans (congrArg some (by kernel_rfl))
 f224:=Tryz.func190.trans (congrArg some (by kernel_rfl))
 f225:=Tryz.func189.trans (congrArg some (by kernel_rfl))
 f266:=Tryz.func196.trans (congrArg some (by kernel_rfl))
 f267:=Tryz.func191.trans (congrArg some (by kernel_rfl))
 f314:=Tryz.func197.trans (congrArg some (by kernel_rfl))
 t3:=Tryz.underlying3
 a3:=Tryz.isAgg3
 z3:=Tryz.sizeOf3
 v3:=Tryz.zeroValue3
 t4:=Tryz.underlying4
 a4:=Tryz.isAgg4
 z4:=Tryz.sizeOf4
 v4:=Tryz.zeroValue4
 t5:=Tryz.underlying5
 a5:=Tryz.isAgg5
 z5:=Tryz.sizeOf5
 v5:=Tryz.zeroValue5
 t9:=Tryz.underlying9
 a9:=Tryz.isAgg9
 z9:=Tryz.sizeOf9
 v9:=Tryz.zeroValue9
 t46:=Tryz.underlying169
 a46:=Tryz.isAgg169
 z46:=Tryz.sizeOf169
 v46:=Tryz.zeroValue169
 t51:=Tryz.underlying196
 a51:=Tryz.isAgg196
 z51:=Tryz.sizeOf196
 v51:=Tryz.zeroValue196
 t59:=Tryz.underlying201
 a59:=Tryz.isAgg201
 z59:=Tryz.sizeOf201
 v59:=Tryz.zeroValue201
 t146:=Tryz.underlying233
 a146:=Tryz.isAgg233
 z146:=Tryz.sizeOf233
 v146:=Tryz.zeroValue233
 g1:=by kernel_rfl }
open Go.RowKit Go.Lib in
theorem Tryz.strings_Cut (s a:ByteArray)(m:Int)(w:World)(hs:s.size<4294967281)(b:w.cell? ⟨0,0,none⟩=some (.int .i64 m)):
  Calls Tryz.prog 160 #[.string s,.string a] w fun e w'=>e = .returned (.tuple #[.string ⟨(Lib.cut s.data.toList a.data.toList).1.toArray⟩,.string ⟨(Lib.cut s.data.toList a.data.toList).2.1.toArray⟩,.bool (Lib.cut s.data.toList a.data.toList).2.2])∧∃n,w'=w.drewN n:=Any.strings_Cut Tryz.lays145 s a m w hs b
def Tryz.lays189_ren:Go.Shelf.Ren:=⟨fun| 189=>117| 125=>133| 257=>132| 128=>155| 129=>156| 294=>146| 295=>147| 296=>148| 297=>149| 298=>150| 299=>151| 216=>152| 300=>153| 301=>154| 328=>164| 329=>165| 330=>166| 331=>167| 332=>168| 215=>116| 343=>177|n=>n,fun| 28=>77| 3=>3| 46=>169| 0=>0| 51=>196| 53=>198| 4=>4| 183=>190| 182=>189| 131=>50| 5=>5| 9=>9| 218=>204| 222=>208| 228=>215| 229=>176|n=>n,fun|n=>n⟩
theorem Tryz.lays189:Go.Proofs.Lays.n189 Tryz.prog Tryz.lays189_ren:={
 mixed:=by kernel_rfl
 f125:=Tryz.func133.trans (congrArg some (by kernel_rfl))
 f128:=Tryz.func155.trans (congrArg some (by kernel_rfl))
 f129:=Tryz.func156.trans (congrArg some (by kernel_rfl))
 f189:=Tryz.func117.trans (congrArg some (by kernel_rfl))
 f215:=Tryz.func116.trans (congrArg some (by kernel_rfl))
 f216:=Tryz.func152.trans (congrArg some (by kernel_rfl))
 f257:=Tryz.func132.trans (congrArg some (by kernel_rfl))
 f294:=Tryz.func146.trans (congrArg some (by kernel_rfl))
 f295:=Tryz.func147.trans (congrArg some (by kernel_rfl))
 f296:=Tryz.func148.trans (congrArg some (by kernel_rfl))
 f297:=Tryz.func149.trans (congrArg some (by kernel_rfl))
 f298:=Tryz.func150.trans (congrArg some (by kernel_rfl))
 f299:=Tryz.func151.trans (congrArg some (by kernel_rfl))
 f300:=Tryz.func153.trans (congrArg some (by kernel_rfl))
 f301:=Tryz.func154.trans (congrArg some (by kernel_rfl))
 f328:=Tryz.func164.trans (congrArg some (by kernel_rfl))
 f329:=Tryz.func165.trans (congrArg some (by kernel_rfl))
 f330:=Tryz.func166.trans (congrArg some (by kernel_rfl))
 f331:=Tryz.func167.trans (congrArg some (by kernel_rfl))
 f332:=Tryz.func168.trans (congrArg some (by kernel_rfl))
 f343:=Tryz.func177.trans (congrArg some (by kernel_rfl))
 t0:=Tryz.underlying0
 a0:=Tryz.isAgg0
 z0:=Tryz.sizeOf0
 v0:=Tryz.zeroValue0
 t3:=Tryz.underlying3
 a3:=Tryz.isAgg3
 z3:=Tryz.sizeOf3
 v3:=Tryz.zeroValue3
 t4:=Tryz.underlying4
 a4:=Tryz.isAgg4
 z4:=Tryz.sizeOf4
 v4:=Tryz.zeroValue4
 t5:=Tryz.underlying5
 a5:=Tryz.isAgg5
 z5:=Tryz.sizeOf5
 v5:=Tryz.zeroValue5
 t9:=Tryz.underlying9
 a9:=Tryz.isAgg9
 z9:=Tryz.sizeOf9
 v9:=Tryz.zeroValue9
 t28:=Tryz.underlying77
 a28:=Tryz.isAgg77
 z28:=Tryz.sizeOf77
 v28:=Tryz.zeroValue77
 t46:=Tryz.underlying169
 a46:=Tryz.isAgg169
 z46:=Tryz.sizeOf169
 v46:=Tryz.zeroValue169
 t51:=Tryz.underlying196
 a51:=Tryz.isAgg196
 z51:=Tryz.sizeOf196
 v51:=Tryz.zeroValue196
 t53:=Tryz.underlying198
 a53:=Tryz.isAgg198
 z53:=Tryz.sizeOf198
 v53:=Tryz.zeroValue198
 t131:=Tryz.underlying50
 a131:=Tryz.isAgg50
 z131:=Tryz.sizeOf50
 v131:=Tryz.zeroValue50
 t182:=Tryz.underlying189
 a182:=Tryz.isAgg189
 z182:=Tryz.sizeOf189
 v182:=Tryz.zeroValue189
 t183:=Tryz.underlying190
 a183:=Tryz.isAgg190
 z183:=Tryz.sizeOf190
 v183:=Tryz.zeroValue190
 t218:=Tryz.underlying204
 a218:=Tryz.isAgg204
 z218:=Tryz.sizeOf204
 v218:=Tryz.zeroValue204
 t222:=Tryz.underlying208
 a222:=Tryz.isAgg208
 z222:=Tryz.sizeOf208
 v222:=Tryz.zeroValue208
 t228:=Tryz.underlying215
 a228:=Tryz.isAgg215
 z228:=Tryz.sizeOf215
 v228:=Tryz.zeroValue215
 t229:=Tryz.underlying176
 a229:=Tryz.isAgg176
 z229:=Tryz.sizeOf176
 v229:=Tryz.zeroValue176 }
open Go.Sort Go.RowKit in
theorem Tryz.slices_Sort_int (a off cap:Nat)(b:List Int)(w:World)(f:Holds (Value.int .i64) w a off b.toArray)(c:a<w.heap.size)(d:b.length<4611686018427387904):
  Calls Tryz.prog 117 #[.slice (some ⟨a,off,none⟩) b.length cap] w fun e w' =>e = .returned (.tuple #[])∧∃n os,w'=grow (putRow (Value.int .i64) (Sort.ahead w n) a off (b.mergeSort fun x y=>decide (x≤y)).toArray) os:=Any.slices_Sort_int Tryz.lays189 a off cap b w f c d
def Tryz.lays146_ren:Go.Shelf.Ren:=⟨fun| 146=>137| 221=>157| 268=>169| 138=>170| 143=>171| 195=>178| 197=>179| 218=>180| 219=>181| 260=>187| 217=>188| 225=>189| 224=>190| 267=>191| 266=>196| 314=>197|n=>n,fun| 9=>9| 31=>79| 3=>3| 4=>4| 0=>0| 105=>217| 21=>21| 5=>5| 46=>169| 119=>229| 139=>232| 138=>231| 146=>233| 51=>196|n=>n,fun| 1=>0| 3=>2| 4=>3|n=>n⟩
theorem Tryz.lays146:Go.Proofs.Lays.n146 Tryz.prog Tryz.lays146_ren:={
 mixed:=by kernel_rfl
 f138:=Tryz.func170.trans (congrArg some (by kernel_rfl))
 f143:=Tryz.func171.trans (congrArg some (by kernel_rfl))
 f146:=Tryz.func137.trans (congrArg some (by kernel_rfl))
 f195:=Tryz.func178.trans (congrArg some (by kernel_rfl))
 f197:=Tryz.func179.trans (congrArg some (by kernel_rfl))
 f217:=Tryz.func188.trans (congrArg some (by kernel_rfl))
 f218:=Tryz.func180.trans (congrArg some (by kernel_rfl))
 f219:=Tryz.func181.trans (congrArg some (by kernel_rfl))
 f221:=Tryz.func157.trans (congrArg some (by kernel_rfl))
 f224:=Tryz.func190.trans (congrArg some (by kernel_rfl))
 f225:=Tryz.func189.trans (congrArg some (by kernel_rfl))
 f260:=Tryz.func187.trans (congrArg some (by kernel_rfl))
 f266:=Tryz.func196.trans (congrArg some (by kernel_rfl))
 f267:=Tryz.func191.trans (congrArg some (by kernel_rfl))
 f268:=Tryz.func169.trans (congrArg some (by kernel_rfl))
 f314:=Tryz.func197.trans (congrArg some (by kernel_rfl))
 t0:=Tryz.underlying0
 a0:=Tryz.isAgg0
 z0:=Tryz.sizeOf0
 v0:=Tryz.zeroValue0
 t3:=Tryz.underlying3
 a3:=Tryz.isAgg3
 z3:=Tryz.sizeOf3
 v3:=Tryz.zeroValue3
 t4:=Tryz.underlying4
 a4:=Tryz.isAgg4
 z4:=Tryz.sizeOf4
 v4:=Tryz.zeroValue4
 t5:=Tryz.underlying5
 a5:=Tryz.isAgg5
 z5:=Tryz.sizeOf5
 v5:=Tryz.zeroValue5
 t9:=Tryz.underlying9
 a9:=Tryz.isAgg9
 z9:=Tryz.sizeOf9
 v9:=Tryz.zeroValue9
 t21:=Tryz.underlying21
 a21:=Tryz.isAgg21
 z21:=Tryz.sizeOf21
 v21:=Tryz.zeroValue21
 t31:=Tryz.underlying79
 a31:=Tryz.isAgg79
 z31:=Tryz.sizeOf79
 v31:=Tryz.zeroValue79
 t46:=Tryz.underlying169
 a46:=Tryz.isAgg169
 z46:=Tryz.sizeOf169
 v46:=Tryz.zeroValue169
 t51:=Tryz.underlying196
 a51:=Tryz.isAgg196
 z51:=Tryz.sizeOf196
 v51:=Tryz.zeroValue196
 t105:=Tryz.underlying217
 a105:=Tryz.isAgg217
 z105:=Tryz.sizeOf217
 v105:=Tryz.zeroValue217
 t119:=Tryz.underlying229
 a119:=Tryz.isAgg229
 z119:=Tryz.sizeOf229
 t138:=Tryz.underlying231
 a138:=Tryz.isAgg231
 z138:=Tryz.sizeOf231
 v138:=Tryz.zeroValue231
 t139:=Tryz.underlying232
 a139:=Tryz.isAgg232
 z139:=Tryz.sizeOf232
 v139:=Tryz.zeroValue232
 t146:=Tryz.underlying233
 a146:=Tryz.isAgg233
 z146:=Tryz.sizeOf233
 v146:=Tryz.zeroValue233
 g1:=by kernel_rfl
 g3:=by kernel_rfl
 g4:=by kernel_rfl }
open Go.RowKit Go.Lib in
theorem Tryz.strings_Split (s a:ByteArray)(m:Int)(w:World)(hs:s.size<4294967281)(b:w.cell? ⟨0,0,none⟩=some (.int .i64 m))(c:1≤a.size):
  Calls Tryz.prog 137 #[.string s,.string a] w fun e w' =>e = .returned (.slice (some ⟨w.heap.size,0,none⟩) (Lib.countB s a+1) (Lib.countB s a+1))∧w'=w.alloc (.cells ((Lib.splitB a 0 (Lib.countB s a) s).map Value.string).toArray 9):=Any.strings_Split Tryz.lays146 (by kernel_rfl) s a m w hs b c
def Tryz.laysNm220_ren:Go.Shelf.Ren:=⟨fun| 20=>141|n=>n,fun| 22=>77| 3=>3| 4=>4| 0=>0|n=>n,fun|n=>n⟩
theorem Tryz.laysNm220:Go.Proofs.Lays2.n20 Tryz.prog Tryz.laysNm220_ren:={
 mixed:=by kernel_rfl
 f20:=Tryz.func141.trans (congrArg some (by kernel_rfl))
 t0:=Tryz.underlying0
 a0:=Tryz.isAgg0
 z0:=Tryz.sizeOf0
 v0:=Tryz.zeroValue0
 t3:=Tryz.underlying3
 a3:=Tryz.isAgg3
 z3:=Tryz.sizeOf3
 v3:=Tryz.zeroValue3
 t4:=Tryz.underlying4
 a4:=Tryz.isAgg4
 z4:=Tryz.sizeOf4
 v4:=Tryz.zeroValue4
 t22:=Tryz.underlying77
 a22:=Tryz.isAgg77
 z22:=Tryz.sizeOf77
 v22:=Tryz.zeroValue77
 i3:=by kernel_rfl }
open Go.RowKit Go.Lib Go.Sort in
theorem Tryz.slices_Compact_int (a off cap:Nat)(b:List Int)(w:World)(d:Holds (Value.int .i64) w a off b.toArray)(c:b.length≤9223372036854775807)(hcap:b.length≤cap):
  Calls Tryz.prog 141 #[.slice (some ⟨a,off,none⟩) b.length cap] w fun e w'=>e = .returned (.slice (some ⟨a,off,none⟩) (Lib.compact b).length cap)∧∃q,w'=putRow (Value.int .i64) (Sort.ahead w q) a off (Lib.compact b++List.replicate (b.length-(Lib.compact b).length) 0).toArray:=Any.slices_Compact_int Tryz.laysNm220 a off cap b w d c hcap
open Go.RowKit Go.Lib Go.Sort in
theorem Tryz.slices_Compact_int_empty (a:Option Addr)(cap:Nat)(w:World):
  Calls Tryz.prog 141 #[.slice a 0 cap] w fun e w'=>e = .returned (.slice a 0 cap)∧w'=w:=Any.slices_Compact_int_empty Tryz.laysNm220 a cap w
open Go.RowKit Go.Sort in
theorem Tryz.slices_Sort_int_none (p:Option Addr)(cap:Nat)(w:World):
  Calls Tryz.prog 117 #[.slice p 0 cap] w fun e w'=>e = .returned (.tuple #[])∧w'=w:=Any.slices_Sort_int_none Tryz.lays189 p cap w
end
end Go.Proofs.YtjikhkndmohepaaGreatDoor.Am
