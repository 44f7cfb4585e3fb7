/- What the library's functions tell; the seat's types and functions. -/
import Derived.Test.YtgaiiephdjllkaaGreatDoorAmc
import Derived.Test.YtgaiiephdjllkaaGreatDoorShelf
import Derived.Lib.SplitLaws
import Derived.WalkKit
import Derived.Test.YtgaiiephdjllkaaGreatDoorProg
import Derived.KernelRfl
import Derived.RegionTactic
import Derived.ChangeAlike
import Derived.BigRegion
namespace Go.Proofs.YtgaiiephdjllkaaGreatDoor.Am
set_option linter.unusedVariables false
set_option linter.unusedSimpArgs false
open Go Go.Proofs
set_option maxRecDepth 100000
def HW (w : World) : Prop := (∃ m, w.cell? ⟨0, 0, none⟩ = some (.int .i64 m)) ∧ Lib.TabIs Tryz.prog w "internal/strconv.uint64pow10" .u64 Lib.pow10Tab
theorem BD {w w':World} {b:Nat} (h:w'.heap[b]?=w.heap[b]?) (o:Nat):w'.cell? ⟨b,o,none⟩=w.cell? ⟨b,o,none⟩:=by
 unfold World.cell?
 simp only [h]
theorem Gu {P:Program} {name:String} {g:Nat} (h:P.globalNamed name=some g):g<P.globals.size:=by
 unfold Program.globalNamed at h
 split at h
 ·rename_i g' hg
  cases h
  have:g∈(List.range P.globals.size).filter fun g=>(P.globals[g]?).any (·.name==name):=by rw [hg];exact List.mem_singleton_self g
  exact List.mem_range.1 (List.mem_filter.1 this).1
 ·cases h
theorem En {P:Program} {w w':World} (h:∀ b,b<P.globals.size→w'.heap[b]?=w.heap[b]?) (name:String):w'.var? P name=w.var? P name:=by
 unfold World.var?
 cases q:P.globalNamed name with
 | none=>rfl
 | some g =>
  have hg:g<P.globals.size:=Gu q
  simp only [Option.bind_some,h g hg]
noncomputable def jy:Base:=⟨Tryz.prog.globals.size,HW,fun {w w'} h hk=>by
 obtain ⟨⟨m,hm⟩,ht⟩:=hk
 have h0:(0:Nat)<Tryz.prog.globals.size:=of_decide_eq_true (by kernel_rfl)
 refine ⟨⟨m,by rw [BD (h 0 h0)];exact hm⟩,?_⟩
 unfold Lib.TabIs at ht ⊢
 rw [En h]
 exact ht⟩
theorem oW {f:FuncId} {xs:List Value} {rd:List Value→cS} {w:World} {X:List Nat} {ad:List DSl} {vs:List Value} {us:List (Sl Unit Unit)} {rs:URes} (hu:us=xs.map fun x => .one (.v x)) (he:ad.map Sl.er=us) (hA:ArgsOk w X ad vs)
  {R:cS} (hr:erR R=rs) (h:Calls Tryz.prog f xs.toArray w fun e w'=>∃ v,e = .returned v∧GrewH X w w'∧RetOk w X w' [] [] R v) :
  Calls Tryz.prog f vs.toArray w fun e w'=>∃ v od rd,e = .returned v∧GrewH X w w'∧erR (od++rd)=rs∧OutsOk w' ad vs od∧RetOk w X w' (ad.flatMap ca) od rd v:=by
 subst hu
 obtain ⟨h1,h2,h3⟩:=uk he hA
 have hl:=hA.1
 subst h1
 refine h.mono ?_
 rintro e w' ⟨v,rfl,g,hR⟩
 exact ⟨v,[],R,rfl,g,hr,OutsOk.nil' hl h3,by rw [h2];exact hR⟩
theorem BS (X:List Nat) (w:World) (n:Nat):GrewH X w (w.drewN n):=⟨rfl,rfl,rfl,Nat.le_refl _,fun b h _=>rfl⟩
def wk:List (Sl Unit Unit)→Option URes
 | [.one (.v (.string s)),.one (.v (.string sep))]=>if s.size<4294967281∧1≤sep.size then some [(false,[.s .own () 1 ((Lib.splitB sep 0 (Lib.countB s sep) s).map etS)])] else none
 | _=>none
def Dd:List (Sl Unit Unit)→Option URes
 | [.one (.v (.string s)),.one (.v (.string sep))]=>if s.size<4294967281 then some [(false,[.v (.string ⟨(Lib.cut s.data.toList sep.data.toList).1.toArray⟩)]),(false,[.v (.string ⟨(Lib.cut s.data.toList sep.data.toList).2.1.toArray⟩)]),(false,[.v (.bool (Lib.cut s.data.toList sep.data.toList).2.2)])] else none
 | _=>none
def nn:List (Sl Unit Unit)→Option URes
 | [.one (.v (.string s)),.one (.v (.string p))]=>some [(false,[.v (.string ⟨(Lib.trimPrefix s.data.toList p.data.toList).toArray⟩)]),(false,[.v (.bool (Lib.hasPrefix s.data.toList p.data.toList))])]
 | _=>none
def yZ:List (Sl Unit Unit)→Option URes
 | [.one (.v (.int .i64 n))]=>if -9223372036854775808≤n∧n≤9223372036854775807 then some [(false,[.v (.string ⟨(Lib.itoa n).toArray⟩)])] else none
 | _=>none
theorem zr {us:List (Sl Unit Unit)} {rs:URes} (h:nn us=some rs) (w:World) (X:List Nat) (ad:List DSl) (vs:List Value) (hB:jy.ok w X) (he:ad.map Sl.er=us) (hA:ArgsOk w X ad vs) :
  Calls Tryz.prog 113 vs.toArray w fun e w'=>∃ v od rd,e = .returned v∧GrewH X w w'∧erR (od++rd)=rs∧OutsOk w' ad vs od∧RetOk w X w' (ad.flatMap ca) od rd v:=by
 unfold nn at h
 split at h
 case h_2=>cases h
 rename_i s p
 cases h
 refine oW (xs:=[.string s,.string p]) (rd:=fun _=>[]) rfl he hA (R:=[Value.string _,Value.bool _].map fun x=>(false,[.v x])) rfl ?_
 refine (Tryz.strings_CutPrefix s p w).mono ?_
 rintro e w' ⟨rfl,rfl⟩
 exact ⟨_,rfl,(Grew.refl w').x X,RetOk.tuple (fun x hx=>by simp at hx;rcases hx with rfl | rfl<;>rfl) (by simp)⟩
theorem Hv {us:List (Sl Unit Unit)} {rs:URes} (h:Dd us=some rs) (w:World) (X:List Nat) (ad:List DSl) (vs:List Value) (hB:jy.ok w X) (he:ad.map Sl.er=us) (hA:ArgsOk w X ad vs) :
  Calls Tryz.prog 115 vs.toArray w fun e w'=>∃ v od rd,e = .returned v∧GrewH X w w'∧erR (od++rd)=rs∧OutsOk w' ad vs od∧RetOk w X w' (ad.flatMap ca) od rd v:=by
 unfold Dd at h
 split at h
 case h_2=>cases h
 rename_i s p
 split at h
 case isFalse=>cases h
 rename_i hs
 cases h
 obtain ⟨_,_,⟨m,hm⟩,_⟩:=hB
 refine oW (xs:=[.string s,.string p]) (rd:=fun _=>[]) rfl he hA (R:=[Value.string _,Value.string _,Value.bool _].map fun x=>(false,[.v x])) rfl ?_
 refine (Tryz.strings_Cut s p m w hs hm).mono ?_
 rintro e w' ⟨rfl,n,rfl⟩
 exact ⟨_,rfl,BS X w n,RetOk.tuple (fun x hx=>by simp at hx;rcases hx with rfl | rfl | rfl<;>rfl) (by simp)⟩
theorem G9 {us:List (Sl Unit Unit)} {rs:URes} (h:yZ us=some rs) (w:World) (X:List Nat) (ad:List DSl) (vs:List Value) (hB:jy.ok w X) (he:ad.map Sl.er=us) (hA:ArgsOk w X ad vs) :
  Calls Tryz.prog 106 vs.toArray w fun e w'=>∃ v od rd,e = .returned v∧GrewH X w w'∧erR (od++rd)=rs∧OutsOk w' ad vs od∧RetOk w X w' (ad.flatMap ca) od rd v:=by
 unfold yZ at h
 split at h
 case h_2=>cases h
 rename_i n
 split at h
 case isFalse=>cases h
 rename_i hs
 cases h
 obtain ⟨_,_,_,ht⟩:=hB
 refine oW (xs:=[.int .i64 n]) (rd:=fun _=>[]) rfl he hA (R:=[(false,[.v (.string ⟨(Lib.itoa n).toArray⟩)])]) rfl ?_
 refine (Tryz.strconv_Itoa n hs.1 hs.2 w ht).mono ?_
 rintro e w' ⟨rfl,k,os,rfl⟩
 refine ⟨_,rfl,⟨rfl,rfl,rfl,by show _≤(w.heap++os).size;simp,fun b hb _ => ?_⟩,RetOk.plain rfl⟩
 show (w.heap++os)[b]?=_
 rw [Array.getElem?_append_left hb]
theorem GA {us:List (Sl Unit Unit)} {rs:URes} (h:wk us=some rs) (w:World) (X:List Nat) (ad:List DSl) (vs:List Value) (hB:jy.ok w X) (he:ad.map Sl.er=us) (hA:ArgsOk w X ad vs) :
  Calls Tryz.prog 101 vs.toArray w fun e w'=>∃ v od rd,e = .returned v∧GrewH X w w'∧erR (od++rd)=rs∧OutsOk w' ad vs od∧RetOk w X w' (ad.flatMap ca) od rd v:=by
 unfold wk at h
 split at h
 case h_2=>cases h
 rename_i s sep
 split at h
 case isFalse=>cases h
 rename_i hs
 cases h
 obtain ⟨_,_,⟨m,hm⟩,_⟩:=hB
 have hlen:(Lib.splitB sep 0 (Lib.countB s sep) s).length=Lib.countB s sep+1:=Lib.splitB_all sep hs.2 0 _ s rfl
 refine oW (xs:=[.string s,.string sep]) (rd:=fun _=>[]) rfl he hA (R:=[(false,[.s .own ⟨w.heap.size,0,Lib.countB s sep+1,false,none⟩ 1 (aS Value.string (Lib.splitB sep 0 (Lib.countB s sep) s))])]) (by simp [erR,erL,au,tG,etS]) ?_
 refine (Tryz.strings_Split s sep m w hs.1 hm hs.2).mono ?_
 rintro e w' ⟨rfl,rfl⟩
 refine ⟨_,rfl,(Grew.alloc w _).x X,?_⟩
 have hb:(w.alloc (.cells ((Lib.splitB sep 0 (Lib.countB s sep) s).map Value.string).toArray 9)).heap[w.heap.size]?=some (.cells ((Lib.splitB sep 0 (Lib.countB s sep) s).map Value.string).toArray 9):=by
  show (w.heap.push _)[w.heap.size]?=_;simp
 have:=RetOk.freshRow (w:=w) (X:=X) (l:=Lib.splitB sep 0 (Lib.countB s sep) s) (cap:=Lib.countB s sep+1) Value.string (fun _=>rfl) hb (fun j x hx=>by simp [hx]) (by omega) (by simp [hlen]) (fun q _ h=>by omega) (.inl (Nat.le_refl _))
 rwa [hlen] at this
theorem Dy {w:World} {k:Kd} {d:Dec} {l:List ByteArray} (h:Holds w (.s k d 1 (aS Value.string l))) (hne:l≠[]):d.addr=some ⟨d.b,d.o,none⟩∧d.b<w.heap.size∧l.length≤d.cap∧∀ (j:Nat) x,l[j]?=some x→w.cell? ⟨d.b,d.o+j,none⟩=some (.string x):=by
 have hpos:0<l.length:=List.length_pos_iff.2 hne
 generalize hr:aS Value.string l=rows at *
 have hlen:rows.length=l.length:=by rw [← hr];simp [aS]
 cases h with
 | e=>simp at hlen;omega
 | s _ _ _ _ q1 q2 c e f q3 q4 q5 q6 q7 =>
  refine ⟨by rw [Dec.addr_none q2,q1];rfl,cO q3,by omega,fun j x hx => ?_⟩
  have hg:rows[j]?=some [.v (.string x)]:=by rw [← hr];unfold aS;rw [List.getElem?_map,hx];rfl
  obtain ⟨y,hy,hv⟩:=q6 j _ 0 _ hg rfl
  have e1:d.o+j*1+0=d.o+j:=by omega
  rw [e1] at hy
  unfold World.cell?
  simp only [q3,Option.isSome_none,Bool.false_eq_true,if_false]
  rw [hy,show y=_ from hv.1]
def y3:List (Sl Unit Unit)→Option URes
 | [.one (.s .far () 1 rows),.one (.v (.string sep))]=>(oz rows).bind fun xs=>if xs.length≤140737488355328∧(Lib.join (xs.map (·.data.toList)) sep.data.toList).length≤140737488355328 then some [(false,[.v (.string ⟨(Lib.join (xs.map (·.data.toList)) sep.data.toList).toArray⟩)])] else none
 | _=>none
theorem Ha {us:List (Sl Unit Unit)} {rs:URes} (h:y3 us=some rs) (w:World) (X:List Nat) (ad:List DSl) (vs:List Value) (hB:jy.ok w X) (he:ad.map Sl.er=us) (hA:ArgsOk w X ad vs) :
  Calls Tryz.prog 96 vs.toArray w fun e w'=>∃ v od rd,e = .returned v∧GrewH X w w'∧erR (od++rd)=rs∧OutsOk w' ad vs od∧RetOk w X w' (ad.flatMap ca) od rd v:=by
 unfold y3 at h
 split at h
 case h_2=>cases h
 rename_i rows sep
 rw [Option.bind_eq_some_iff] at h
 obtain ⟨l,hl,h⟩:=h
 split at h
 case isFalse=>cases h
 rename_i hs
 cases h
 match ad,he,hA with
 | [a,b],he,hA =>
  simp only [List.map_cons,List.map_nil,List.cons.injEq,and_true] at he
  obtain ⟨d,rowsD,rfl,hr⟩:=tE he.1
  have hb:=Fl he.2
  subst hb
  rw [← hr] at hl
  have hrow:=Bo hl
  subst hrow
  obtain ⟨h1,h2,h3⟩:=hA
  match vs,h1,h2 with
  | [y,z],h1,h2 =>
   have A:=h2 0 _ y rfl rfl
   have hy:y = .slice d.addr (aS Value.string l).length d.cap:=A.val []
   have hz:z = .string sep:=((h2 1 _ z rfl rfl).val []).1
   have hlen:(aS Value.string l).length=l.length:=by simp [aS]
   rw [hlen] at hy
   subst hy;subst hz
   have hH:Holds w (.s .far d 1 (aS Value.string l)):=A.mem.1 _ (by simp [ai])
   have fin:∀ (x:Value) (w':World),x.oneCell'=true→Grew w w'→∃ v od rd,Ending.returned x = .returned v∧GrewH X w w'∧erR (od++rd)=[(false,[.v x])]∧OutsOk w' [.one (.s .far d 1 (aS Value.string l)),.one (.v (.string sep))] [.slice d.addr l.length d.cap,.string sep] od∧RetOk w X w' ([(.one (.s .far d 1 (aS Value.string l)):DSl),.one (.v (.string sep))].flatMap ca) od rd v :=
    fun x w' hx g=>⟨x,[],[(false,[.v x])],rfl,g.x X,rfl,OutsOk.nil' rfl (fun s hs=>by simp at hs;rcases hs with rfl | rfl<;>rfl),RetOk.plain hx⟩
   by_cases hne:l=[]
   ·subst hne
    refine (Tryz.strings_Join_none d.addr d.cap sep w).mono ?_
    rintro e w' ⟨rfl,rfl⟩
    exact fin _ _ rfl (Grew.refl _)
   ·obtain ⟨k1,k2,k3,k4⟩:=Dy hH hne
    rw [k1]
    rw [k1] at fin
    refine (Tryz.strings_Join d.b d.o d.cap l sep w k4 k2 hs.1 k3 hs.2).mono ?_
    rintro e w' ⟨rfl,g1,g2,g3,g4,g5⟩
    exact fin _ _ rfl ⟨g1,g2,g3,g4,g5⟩
  | [],h1,_=>cases h1
  | [y],h1,_=>simp at h1
  | y::z::q::r,h1,_=>simp at h1
 | [],he,_=>simp at he
 | [a],he,_=>simp at he
 | a::b::c::r,he,_=>simp at he
def y7:List (Sl Unit Unit)→Option URes
 | [.one (.s .own () 1 rows)]=>(jm rows).bind fun l=>if l.length<4611686018427387904 then some [(false,[.s .own () 1 ((l.mergeSort fun x y=>decide (x≤y)).map etI)])] else none
 | _=>none
theorem Dx {w:World} (os:Array Obj):Grew w (Go.Sort.grow w os):=⟨rfl,rfl,rfl,by show _≤(w.heap++os).size;simp,fun b hb=>by show (w.heap++os)[b]?=_;rw [Array.getElem?_append_left hb]⟩
theorem RetOk.unit {w w':World} {X:List Nat} {d:Dec} {rows:List (List DT)} (hH:Holds w' (.s .own d 1 rows)) (hO:OwnT w' (.s .own d 1 rows)) (hf:(T.s .own d 1 rows:DT).fine=true) (hbl:bl (.s .own d 1 rows)=[]∨bl (.s .own d 1 rows)=[d.b]) (hX:∀ b∈bl (.s .own d 1 rows),(w.heap.size≤b∨b∈X)∧b<w'.heap.size) :
  RetOk w X w' [] [(false,[.s .own d 1 rows])] [] (.tuple #[]) where
 val := .inr (.inl ⟨by decide, #[],rfl,rfl,fun i r v h=>by simp at h⟩)
 fine:=fun r hr t ht=>by rw [List.append_nil,List.mem_singleton] at hr;subst hr;rw [List.mem_singleton] at ht;subst ht;exact hf
 holds:=fun r hr t ht=>by rw [List.append_nil,List.mem_singleton] at hr;subst hr;rw [List.mem_singleton] at ht;subst ht;exact hH
 own:=fun r hr t ht _=>by rw [List.append_nil,List.mem_singleton] at hr;subst hr;rw [List.mem_singleton] at ht;subst ht;exact hO
 once:=fun b=>by
  have:ba ([(false,[(.s .own d 1 rows:DT)])]++[])=bl (.s .own d 1 rows):=by simp [ba,ownR,T.isOwn]
  rw [this]
  rcases hbl with h | h<;>rw [h]<;>simp [List.count_cons]
  split<;>omega
 new:=fun b hb=>by
  have:ba ([(false,[(.s .own d 1 rows:DT)])]++[])=bl (.s .own d 1 rows):=by simp [ba,ownR,T.isOwn]
  rw [this] at hb
  exact hX b hb
theorem Hm {us:List (Sl Unit Unit)} {rs:URes} (h:y7 us=some rs) (w:World) (X:List Nat) (ad:List DSl) (vs:List Value) (hB:jy.ok w X) (he:ad.map Sl.er=us) (hA:ArgsOk w X ad vs) :
  Calls Tryz.prog 98 vs.toArray w fun e w'=>∃ v od rd,e = .returned v∧GrewH X w w'∧erR (od++rd)=rs∧OutsOk w' ad vs od∧RetOk w X w' (ad.flatMap ca) od rd v:=by
 unfold y7 at h
 split at h
 case h_2=>cases h
 rename_i rows
 rw [Option.bind_eq_some_iff] at h
 obtain ⟨l,hl,h⟩:=h
 split at h
 case isFalse=>cases h
 rename_i hs
 cases h
 match ad,he,hA with
 | [a],he,hA =>
  simp only [List.map_cons,List.map_nil,List.cons.injEq,and_true] at he
  obtain ⟨d,rowsD,rfl,hr⟩:=tE he
  rw [← hr] at hl
  have hrow:=qQ hl
  subst hrow
  obtain ⟨h1,h2,h3⟩:=hA
  match vs,h1,h2 with
  | [y],h1,h2 =>
   have A:=h2 0 _ y rfl rfl
   have hlen:(aS (Value.int .i64) l).length=l.length:=by simp [aS]
   have hy:y = .slice d.addr (aS (Value.int .i64) l).length d.cap:=A.val []
   rw [hlen] at hy
   subst hy
   have hH:Holds w (.s .own d 1 (aS (Value.int .i64) l)):=A.mem.1 _ (by simp [ai])
   have hO:OwnT w (.s .own d 1 (aS (Value.int .i64) l)):=A.mem.2.1 _ (by simp [rootsO]) rfl
   have hown:∀ b∈bl (.s .own d 1 (aS (Value.int .i64) l)),b∈X∧b<w.heap.size:=fun b hb=>A.own b (by simpa [ownBl,ownR,T.isOwn] using hb)
   by_cases hne:l=[]
   ·subst hne
    refine (Tryz.slices_Sort_int_none d.addr d.cap w).mono ?_
    rintro e w' ⟨rfl,rfl⟩
    refine ⟨_,[(false,[.s .own d 1 []])],[],rfl,(Grew.refl _).x X,by simp [erR,erL,au],⟨_,[],rfl,⟨⟨_,rfl,rfl⟩,rfl⟩,rfl⟩,RetOk.unit hH hO rfl ?_ fun b hb=>⟨.inr (hown b hb).1,(hown b hb).2⟩⟩
    rw [bW]
    cases d.nil<;>simp
   ·obtain ⟨k1,k2,k3,k4,k5⟩:=xd (Value.int .i64) hne hH hO
    have hbl:∀ l',bl (.s .own d 1 (aS (Value.int .i64) l'))=[d.b]:=fun l'=>zj _ _ k5 _
    have hX:d.b∈X:=(hown d.b (by rw [hbl];simp)).1
    rw [k4]
    refine (Tryz.slices_Sort_int d.b d.o d.cap l w k1 k2 hs).mono ?_
    rintro e w' ⟨rfl,n,os,rfl⟩
    have hml:(l.mergeSort fun x y=>decide (x≤y)).length=l.length:=List.length_mergeSort l
    obtain ⟨m1,m2,m3⟩:=CN (Value.int .i64) (fun _=>rfl) hne hH hO n hml (List.prefix_refl _)
    generalize Go.Sort.putRow (Value.int .i64) (Go.Sort.ahead w n) d.b d.o (l.mergeSort fun x y=>decide (x≤y)).toArray=w1 at m1 m2 m3
    have g:=Dx (w:=w1) os
    have gh:GrewH X w (Go.Sort.grow w1 os):=⟨by rw [g.os,m3.os],by rw [g.tape,m3.tape],by rw [g.output,m3.output],Nat.le_trans m3.size g.size,fun b hb hn=>by
     rw [g.same b (Nat.lt_of_lt_of_le hb m3.size),m3.same b hb (by simp;rintro rfl;exact hn hX)]⟩
    refine ⟨_,[(false,[.s .own d 1 (aS (Value.int .i64) (l.mergeSort fun x y=>decide (x≤y)))])],[],rfl,gh,?_,⟨_,[],rfl,⟨⟨_,rfl,?_⟩,rfl⟩,rfl⟩,RetOk.unit (m1.frame fun b _ hb=>g.same b hb) (m2.frame fun b _ hb=>g.same b hb) rfl (.inr (hbl _)) fun b hb => ?_⟩
    ·simp [erR,erL,au,tG,etI]
    ·show _=Value.slice d.addr _ _
     rw [k4]
     simp [aS]
    ·rw [hbl,List.mem_singleton] at hb
     subst hb
     exact ⟨.inr hX,Nat.lt_of_lt_of_le k2 gh.size⟩
  | [],h1,_=>cases h1
  | y::z::r,h1,_=>simp at h1
 | [],he,_=>simp at he
 | a::b::r,he,_=>simp at he
theorem RetOk.used {w w':World} {X:List Nat} {d:Dec} {rows:List (List DT)} {v:Value} (hv:VT (.s .own d 1 rows) v) (hH:Holds w' (.s .own d 1 rows)) (hO:OwnT w' (.s .own d 1 rows)) (hf:(T.s .own d 1 rows:DT).fine=true) (hbl:bl (.s .own d 1 rows)=[]∨bl (.s .own d 1 rows)=[d.b]) (hX:∀ b∈bl (.s .own d 1 rows),(w.heap.size≤b∨b∈X)∧b<w'.heap.size) :
  RetOk w X w' [] [(false,[.any])] [(false,[.s .own d 1 rows])] v where
 val := .inl ⟨_,rfl,by simp only [VPart,Bool.false_eq_true,if_false];exact ⟨_,rfl,hv⟩⟩
 fine:=fun r hr t ht=>by
  simp only [List.singleton_append,List.mem_cons,List.not_mem_nil,or_false] at hr
  rcases hr with rfl | rfl
  ·rw [List.mem_singleton] at ht;subst ht;rfl
  ·rw [List.mem_singleton] at ht;subst ht;exact hf
 holds:=fun r hr t ht=>by
  simp only [List.singleton_append,List.mem_cons,List.not_mem_nil,or_false] at hr
  rcases hr with rfl | rfl
  ·rw [List.mem_singleton] at ht;subst ht;exact .any
  ·rw [List.mem_singleton] at ht;subst ht;exact hH
 own:=fun r hr t ht ho=>by
  simp only [List.singleton_append,List.mem_cons,List.not_mem_nil,or_false] at hr
  rcases hr with rfl | rfl
  ·rw [List.mem_singleton] at ht;subst ht;cases ho
  ·rw [List.mem_singleton] at ht;subst ht;exact hO
 once:=fun b=>by
  have:ba ([(false,[(.any:DT)])]++[(false,[(.s .own d 1 rows:DT)])])=bl (.s .own d 1 rows):=by simp [ba,ownR,T.isOwn]
  rw [this]
  rcases hbl with h | h<;>rw [h]<;>simp [List.count_cons]
  split<;>omega
 new:=fun b hb=>by
  have:ba ([(false,[(.any:DT)])]++[(false,[(.s .own d 1 rows:DT)])])=bl (.s .own d 1 rows):=by simp [ba,ownR,T.isOwn]
  rw [this] at hb
  exact hX b hb
def qA:List (Sl Unit Unit)→Option URes
 | [.one (.s .own () 1 rows)]=>(jm rows).bind fun l=>if l.length≤9223372036854775807 then some [(false,[.any]),(false,[.s .own () 1 ((Lib.compact l).map etI)])] else none
 | _=>none
theorem FZ (a:Option Addr) (n c:Nat) (h:n≤c) (w:World):Calls Tryz.prog 104 #[.slice a n c] w fun e w'=>e = .returned (.slice a n n)∧w'=w:=by
 go_enter Tryz.func104,Tryz.ntmps104
 go_wp2
 all_goals (go_ret;exact ⟨rfl,rfl⟩)
theorem BE (l:List Int):(Lib.compact l).length≤l.length:=Lib.compact_length_le l
theorem Db {us:List (Sl Unit Unit)} {rs:URes} (h:qA us=some rs) (w:World) (X:List Nat) (ad:List DSl) (vs:List Value) (hB:jy.ok w X) (he:ad.map Sl.er=us) (hA:ArgsOk w X ad vs) :
  Calls Tryz.prog 105 vs.toArray w fun e w'=>∃ v od rd,e = .returned v∧GrewH X w w'∧erR (od++rd)=rs∧OutsOk w' ad vs od∧RetOk w X w' (ad.flatMap ca) od rd v:=by
 unfold qA at h
 split at h
 case h_2=>cases h
 rename_i rows
 rw [Option.bind_eq_some_iff] at h
 obtain ⟨l,hl,h⟩:=h
 split at h
 case isFalse=>cases h
 rename_i hs
 cases h
 match ad,he,hA with
 | [a],he,hA =>
  simp only [List.map_cons,List.map_nil,List.cons.injEq,and_true] at he
  obtain ⟨d,rowsD,rfl,hr⟩:=tE he
  rw [← hr] at hl
  have hrow:=qQ hl
  subst hrow
  obtain ⟨h1,h2,h3⟩:=hA
  match vs,h1,h2 with
  | [y],h1,h2 =>
   have A:=h2 0 _ y rfl rfl
   have hlen:(aS (Value.int .i64) l).length=l.length:=by simp [aS]
   have hy:y = .slice d.addr (aS (Value.int .i64) l).length d.cap:=A.val []
   rw [hlen] at hy
   subst hy
   have hH:Holds w (.s .own d 1 (aS (Value.int .i64) l)):=A.mem.1 _ (by simp [ai])
   have hO:OwnT w (.s .own d 1 (aS (Value.int .i64) l)):=A.mem.2.1 _ (by simp [rootsO]) rfl
   have hown:∀ b∈bl (.s .own d 1 (aS (Value.int .i64) l)),b∈X∧b<w.heap.size:=fun b hb=>A.own b (by simpa [ownBl,ownR,T.isOwn] using hb)
   by_cases hne:l=[]
   ·subst hne
    refine (Tryz.slices_Compact_int_empty d.addr d.cap w).mono ?_
    rintro e w' ⟨rfl,rfl⟩
    refine ⟨_,[(false,[.any])],[(false,[.s .own d 1 []])],rfl,(Grew.refl _).x X,by simp [erR,erL,au,Lib.compact,Lib.compactUpTo];rfl,⟨_,[],rfl,⟨⟨_,rfl,rfl⟩,rfl⟩,rfl⟩,RetOk.used rfl hH hO rfl ?_ fun b hb=>⟨.inr (hown b hb).1,(hown b hb).2⟩⟩
    rw [bW]
    cases d.nil<;>simp
   ·obtain ⟨k1,k2,k3,k4,k5⟩:=xd (Value.int .i64) hne hH hO
    have hbl:∀ l',bl (.s .own d 1 (aS (Value.int .i64) l'))=[d.b]:=fun l'=>zj _ _ k5 _
    have hX:d.b∈X:=(hown d.b (by rw [hbl];simp)).1
    rw [k4]
    refine (Tryz.slices_Compact_int d.b d.o d.cap l w k1 hs k3).mono ?_
    rintro e w' ⟨rfl,n,rfl⟩
    have hml:(Lib.compact l++List.replicate (l.length-(Lib.compact l).length) 0).length=l.length:=by
     have:=BE l
     simp;omega
    obtain ⟨m1,m2,m3⟩:=CN (Value.int .i64) (fun _=>rfl) hne hH hO n hml (l2:=Lib.compact l) (List.prefix_append _ _)
    generalize Go.Sort.putRow (Value.int .i64) (Go.Sort.ahead w n) d.b d.o (Lib.compact l++List.replicate (l.length-(Lib.compact l).length) 0).toArray=w1 at m1 m2 m3
    have gh:GrewH X w w1:=⟨m3.os,m3.tape,m3.output,m3.size,fun b hb hn=>m3.same b hb (by simp;rintro rfl;exact hn hX)⟩
    refine ⟨_,[(false,[.any])],[(false,[.s .own d 1 (aS (Value.int .i64) (Lib.compact l))])],rfl,gh,?_,⟨_,[],rfl,⟨⟨_,rfl,rfl⟩,rfl⟩,rfl⟩,RetOk.used ?_ m1 m2 rfl (.inr (hbl _)) fun b hb => ?_⟩
    ·simp [erR,erL,au,tG,etI];rfl
    ·show _=Value.slice d.addr _ _
     rw [k4]
     simp [aS]
    ·rw [hbl,List.mem_singleton] at hb
     subst hb
     exact ⟨.inr hX,Nat.lt_of_lt_of_le k2 gh.size⟩
  | [],h1,_=>cases h1
  | y::z::r,h1,_=>simp at h1
 | [],he,_=>simp at he
 | a::b::r,he,_=>simp at he
def yW:List (Sl Unit Unit)→Option URes
 | [.one (.s .own () 1 rows)]=>(jm rows).bind fun l=>some [(false,[.any]),(false,[.s .own () 1 (l.map etI)])]
 | _=>none
theorem FY {w:World} {d:Dec} {l:List Int} (hH:Holds w (.s .own d 1 (aS (Value.int .i64) l))) (hO:OwnT w (.s .own d 1 (aS (Value.int .i64) l))):l.length≤d.cap∧Holds w (.s .own { d with cap:=l.length } 1 (aS (Value.int .i64) l))∧OwnT w (.s .own { d with cap:=l.length } 1 (aS (Value.int .i64) l)):=by
 generalize hr:aS (Value.int .i64) l=rows at *
 have hlen:rows.length=l.length:=by rw [← hr];simp [aS]
 cases hO with
 | nil _ _ p1 p2 p3 =>
  have e0:l.length=0:=by rw [← hlen];rfl
  exact ⟨by omega,.e _ _ _,.nil _ _ p1 p2 e0⟩
 | s _ _ _ p1 p2 c' e' lo hi p3 p4 p5 p6 p7 =>
  refine ⟨by omega,?_,.s _ _ _ p1 p2 c' e' lo hi p3 (by simp;omega) (by simp at p5 ⊢;omega) (fun x h1 h2=>p6 x h1 (by simp at h2 ⊢;omega)) p7⟩
  cases hH with
  | e=>exact .e _ _ _
  | s _ _ _ _ q1 q2 c e f q3 q4 q5 q6 q7=>exact .s _ _ _ _ q1 q2 c e f q3 (by simp;omega) q5 q6 q7
theorem GW {us:List (Sl Unit Unit)} {rs:URes} (h:yW us=some rs) (w:World) (X:List Nat) (ad:List DSl) (vs:List Value) (hB:jy.ok w X) (he:ad.map Sl.er=us) (hA:ArgsOk w X ad vs) :
  Calls Tryz.prog 104 vs.toArray w fun e w'=>∃ v od rd,e = .returned v∧GrewH X w w'∧erR (od++rd)=rs∧OutsOk w' ad vs od∧RetOk w X w' (ad.flatMap ca) od rd v:=by
 unfold yW at h
 split at h
 case h_2=>cases h
 rename_i rows
 rw [Option.bind_eq_some_iff] at h
 obtain ⟨l,hl,h⟩:=h
 cases h
 match ad,he,hA with
 | [a],he,hA =>
  simp only [List.map_cons,List.map_nil,List.cons.injEq,and_true] at he
  obtain ⟨d,rowsD,rfl,hr⟩:=tE he
  rw [← hr] at hl
  have hrow:=qQ hl
  subst hrow
  obtain ⟨h1,h2,h3⟩:=hA
  match vs,h1,h2 with
  | [y],h1,h2 =>
   have A:=h2 0 _ y rfl rfl
   have hlen:(aS (Value.int .i64) l).length=l.length:=by simp [aS]
   have hy:y = .slice d.addr (aS (Value.int .i64) l).length d.cap:=A.val []
   rw [hlen] at hy
   subst hy
   have hH:Holds w (.s .own d 1 (aS (Value.int .i64) l)):=A.mem.1 _ (by simp [ai])
   have hO:OwnT w (.s .own d 1 (aS (Value.int .i64) l)):=A.mem.2.1 _ (by simp [rootsO]) rfl
   have hown:∀ b∈bl (.s .own d 1 (aS (Value.int .i64) l)),b∈X∧b<w.heap.size:=fun b hb=>A.own b (by simpa [ownBl,ownR,T.isOwn] using hb)
   obtain ⟨k1,k2,k3⟩:=FY hH hO
   have hbl:bl (.s .own { d with cap:=l.length } 1 (aS (Value.int .i64) l))=bl (.s .own d 1 (aS (Value.int .i64) l)):=by rw [bW,bW]
   refine (FZ d.addr l.length d.cap k1 w).mono ?_
   rintro e w' ⟨rfl,rfl⟩
   refine ⟨_,[(false,[.any])],[(false,[.s .own { d with cap:=l.length } 1 (aS (Value.int .i64) l)])],rfl,(Grew.refl _).x X,?_,⟨_,[],rfl,⟨⟨_,rfl,rfl⟩,rfl⟩,rfl⟩,RetOk.used ?_ k2 k3 rfl ?_ fun b hb => ?_⟩
   ·simp [erR,erL,au,tG,etI];rfl
   ·show _=Value.slice _ _ _
    rw [hlen];rfl
   ·rw [bW,xV]
    cases d.nil<;>simp
   ·rw [hbl] at hb
    exact ⟨.inr (hown b hb).1,(hown b hb).2⟩
  | [],h1,_=>cases h1
  | y::z::r,h1,_=>simp at h1
 | [],he,_=>simp at he
 | a::b::r,he,_=>simp at he
def orc (_:Sem1):Sem1:=fun f us=>match f with
 | 96=>y3 us
 | 101=>wk us
 | 98=>y7 us
 | 104=>yW us
 | 105=>qA us
 | 106=>yZ us
 | 113=>nn us
 | 115=>Dd us
 | _=>none
theorem HM:∀ C,CallsOk Tryz.prog jy C→CallsOk Tryz.prog jy (orc C):=by
 intro C _ f us rs h w X ad vs hB he hA
 unfold orc at h
 split at h
 ·exact Ha h w X ad vs hB he hA
 ·exact GA h w X ad vs hB he hA
 ·exact Hm h w X ad vs hB he hA
 ·exact GW h w X ad vs hB he hA
 ·exact Db h w X ad vs hB he hA
 ·exact G9 h w X ad vs hB he hA
 ·exact zr h w X ad vs hB he hA
 ·exact Hv h w X ad vs hB he hA
 ·cases h
end Go.Proofs.YtgaiiephdjllkaaGreatDoor.Am
namespace Go.Proofs.YtgaiiephdjllkaaGreatDoor.Am
set_option linter.unusedVariables false
set_option linter.unusedSimpArgs false
open Go Go.Proofs
set_option maxRecDepth 100000
set_option maxHeartbeats 4000000 in
theorem Eu:y9 Tryz.prog 91 [0,1,2,3,4]:=fun b w=>by
 go_enter Tryz.func91,Tryz.ntmps91
 go_wp2
 go_region
 go_wp2
 refine bodyPost_ret (v := .agg #[.pointer (some ⟨b.1,b.2,none⟩),.pointer (some ⟨b.1,b.2+1,none⟩),.pointer (some ⟨b.1,b.2+2,none⟩),.pointer (some ⟨b.1,b.2+3,none⟩),.pointer (some ⟨b.1,b.2+4,none⟩)]) (by simp [results,Tryz.results91,go_sem]) rfl ⟨rfl,(Grew.alloc _ _).trans (Grew.drew _)⟩
end Go.Proofs.YtgaiiephdjllkaaGreatDoor.Am
namespace Go.Proofs.YtgaiiephdjllkaaGreatDoor.Am
set_option linter.unusedVariables false
set_option linter.unusedSimpArgs false
open Go Go.Proofs
set_option maxRecDepth 100000
def tab:Tab where
 ts:=[(2,⟨1,8,[tI (0:Int)],.int .i64⟩),
  (3,⟨1,8,[tI (0:Int)],.int .i64⟩),
  (4,⟨1,1,[tB false],.bool⟩),
  (5,⟨1,1,[tY (0:Int)],.int .u8⟩),
  (6,⟨1,1,[tY (0:Int)],.int .u8⟩),
  (7,⟨4,24,[tI (0:Int),tI (0:Int),tB false,tY (0:Int)],.struct [0,1,2,3]⟩),
  (8,⟨4,24,[tI (0:Int),tI (0:Int),tB false,tY (0:Int)],.struct [0,1,2,3]⟩),
  (9,⟨1,16,[tS ByteArray.empty],.str⟩),
  (10,⟨1,16,[tS ByteArray.empty],.str⟩),
  (11,⟨1,16,[tS ByteArray.empty],.str⟩),
  (12,⟨1,8,[.v (.int .u64 0)],.int .u64⟩),
  (13,⟨2,24,[tS ByteArray.empty,.v (.int .u64 0)],.struct [0,1]⟩),
  (14,⟨2,24,[tS ByteArray.empty,.v (.int .u64 0)],.struct [0,1]⟩),
  (21,⟨1,4,[.v (.int .i32 0)],.int .i32⟩),
  (22,⟨1,24,[.s .own () 5 []],.slice 69⟩),
  (23,⟨6,80,[tS ByteArray.empty,tS ByteArray.empty,tI (0:Int),tI (0:Int),tB false,.s .own () 5 []],.struct [0,1,2,3,4,5]⟩),
  (24,⟨6,80,[tS ByteArray.empty,tS ByteArray.empty,tI (0:Int),tI (0:Int),tB false,.s .own () 5 []],.struct [0,1,2,3,4,5]⟩),
  (25,⟨2,16,[tI (0:Int),tI (0:Int)],.struct [0,1]⟩),
  (26,⟨2,16,[tI (0:Int),tI (0:Int)],.struct [0,1]⟩),
  (28,⟨2,16,[tI (0:Int),tI (0:Int)],.struct [0,1]⟩),
  (29,⟨1,24,[.s .own () 4 []],.slice 88⟩),
  (30,⟨5,64,[tS ByteArray.empty,tI (0:Int),tI (0:Int),tI (0:Int),.s .own () 4 []],.struct [0,1,3,4]⟩),
  (31,⟨5,64,[tS ByteArray.empty,tI (0:Int),tI (0:Int),tI (0:Int),.s .own () 4 []],.struct [0,1,3,4]⟩),
  (34,⟨1,24,[.s .own () 5 []],.slice 81⟩),
  (35,⟨6,80,[tS ByteArray.empty,tS ByteArray.empty,tI (0:Int),tI (0:Int),tB false,.s .own () 5 []],.struct [0,1,2,3,4,5]⟩),
  (36,⟨6,80,[tS ByteArray.empty,tS ByteArray.empty,tI (0:Int),tI (0:Int),tB false,.s .own () 5 []],.struct [0,1,2,3,4,5]⟩),
  (44,⟨1,24,[.s .own () 4 []],.slice 95⟩),
  (45,⟨5,64,[tS ByteArray.empty,tI (0:Int),tI (0:Int),tI (0:Int),.s .own () 4 []],.struct [0,1,3,4]⟩),
  (46,⟨5,64,[tS ByteArray.empty,tI (0:Int),tI (0:Int),tI (0:Int),.s .own () 4 []],.struct [0,1,3,4]⟩),
  (67,⟨1,24,[.s .own () 1 []],.slice 9⟩),
  (68,⟨5,72,[tS ByteArray.empty,tS ByteArray.empty,tI (0:Int),tB false,.s .own () 1 []],.struct [0,1,2,3,4]⟩),
  (69,⟨5,72,[tS ByteArray.empty,tS ByteArray.empty,tI (0:Int),tB false,.s .own () 1 []],.struct [0,1,2,3,4]⟩),
  (70,⟨1,24,[.s .own () 1 []],.slice 3⟩),
  (71,⟨5,120,[.s .own () 1 [],.s .own () 1 [],.s .own () 1 [],.s .own () 1 [],.s .own () 1 []],.struct [0,1,2,3,4]⟩),
  (72,⟨5,120,[.s .own () 1 [],.s .own () 1 [],.s .own () 1 [],.s .own () 1 [],.s .own () 1 []],.struct [0,1,2,3,4]⟩),
  (81,⟨5,72,[tS ByteArray.empty,tS ByteArray.empty,tI (0:Int),tB false,.s .own () 1 []],.struct [0,1,2,3,4]⟩),
  (87,⟨4,32,[tI (0:Int),tI (0:Int),tI (0:Int),tI (0:Int)],.struct [0,1,2,3]⟩),
  (88,⟨4,32,[tI (0:Int),tI (0:Int),tI (0:Int),tI (0:Int)],.struct [0,1,2,3]⟩),
  (95,⟨4,32,[tI (0:Int),tI (0:Int),tI (0:Int),tI (0:Int)],.struct [0,1,2,3]⟩),
  (101,⟨1,24,[.s .own () 1 []],.slice 4⟩),
  (113,⟨1,24,[.s .own () 1 []],.slice 5⟩),
  (146,⟨1,8,[.v (.int .u64 0)],.int .u64⟩),
  (153,⟨1,8,[tI (0:Int)],.int .i64⟩),
  (160,⟨1,4,[.v (.int .u32 0)],.int .u32⟩),
  (162,⟨1,8,[.v (.int .u64 0)],.int .u64⟩),
  (169,⟨1,8,[.v (.int .u64 0)],.int .u64⟩),
  (191,⟨2,2,[tY (0:Int),tY (0:Int)],.struct [0,1]⟩),
  (192,⟨2,2,[tY (0:Int),tY (0:Int)],.struct [0,1]⟩),
  (204,⟨1,1,[tY (0:Int)],.int .u8⟩),
  (205,⟨1,1,[tY (0:Int)],.int .u8⟩),
  (207,⟨1,4,[.v (.int .i32 0)],.int .i32⟩),
  (208,⟨1,4,[.v (.int .i32 0)],.int .i32⟩)]
 eqs:=[(25,[(0,3),(1,3)]),
  (26,[(0,3),(1,3)]),
  (28,[(0,3),(1,3)]),
  (87,[(0,3),(1,3),(2,3),(3,3)]),
  (88,[(0,3),(1,3),(2,3),(3,3)]),
  (95,[(0,3),(1,3),(2,3),(3,3)]),
  (191,[(0,5),(1,5)]),
  (192,[(0,5),(1,5)])]
 pls:=[(7,[(0,1),(1,1),(2,1),(3,1)]),
  (8,[(0,1),(1,1),(2,1),(3,1)]),
  (13,[(0,1),(1,1)]),
  (14,[(0,1),(1,1)]),
  (23,[(0,1),(1,1),(2,1),(3,1),(4,1),(5,1)]),
  (24,[(0,1),(1,1),(2,1),(3,1),(4,1),(5,1)]),
  (25,[(0,1),(1,1)]),
  (26,[(0,1),(1,1)]),
  (28,[(0,1),(1,1)]),
  (30,[(0,1),(1,2),(3,1),(4,1)]),
  (31,[(0,1),(1,2),(3,1),(4,1)]),
  (35,[(0,1),(1,1),(2,1),(3,1),(4,1),(5,1)]),
  (36,[(0,1),(1,1),(2,1),(3,1),(4,1),(5,1)]),
  (45,[(0,1),(1,2),(3,1),(4,1)]),
  (46,[(0,1),(1,2),(3,1),(4,1)]),
  (68,[(0,1),(1,1),(2,1),(3,1),(4,1)]),
  (69,[(0,1),(1,1),(2,1),(3,1),(4,1)]),
  (71,[(0,1),(1,1),(2,1),(3,1),(4,1)]),
  (72,[(0,1),(1,1),(2,1),(3,1),(4,1)]),
  (81,[(0,1),(1,1),(2,1),(3,1),(4,1)]),
  (87,[(0,1),(1,1),(2,1),(3,1)]),
  (88,[(0,1),(1,1),(2,1),(3,1)]),
  (95,[(0,1),(1,1),(2,1),(3,1)]),
  (191,[(0,1),(1,1)]),
  (192,[(0,1),(1,1)])]
 io:=[(13,0),(14,0),(32,0),(33,0),(59,0),(98,0),(104,0),(105,0)]
 gv:=[104,105]
 addr:=[(91,[0,1,2,3,4])]
 ars:=[(120,5)]
 pw:=[(81,[6,0,0]),(91,[5]),(107,[2,0]),(108,[2,0]),(109,[2]),(118,[2,0])]
noncomputable def GK:List (Nat×Func):=[(3,Tryz.f3),(6,Tryz.f6),(7,Tryz.f7),(8,Tryz.f8),(9,Tryz.f9),(10,Tryz.f10),(11,Tryz.f11),(12,Tryz.f12),(13,Tryz.f13),(14,Tryz.f14),(15,Tryz.f15),(22,Tryz.f22),(23,Tryz.f23),(24,Tryz.f24),(25,Tryz.f25),(26,Tryz.f26),(27,Tryz.f27),(28,Tryz.f28),(29,Tryz.f29),(30,Tryz.f30),(31,Tryz.f31),(32,Tryz.f32),(33,Tryz.f33),(34,Tryz.f34),(42,Tryz.f42),(43,Tryz.f43),(44,Tryz.f44),(45,Tryz.f45),(46,Tryz.f46),(47,Tryz.f47),(48,Tryz.f48),(49,Tryz.f49),(50,Tryz.f50),(51,Tryz.f51),(52,Tryz.f52),(53,Tryz.f53),(54,Tryz.f54),(55,Tryz.f55),(56,Tryz.f56),(57,Tryz.f57),(58,Tryz.f58),(59,Tryz.f59),(65,Tryz.f65),(66,Tryz.f66),(67,Tryz.f67),(68,Tryz.f68),(69,Tryz.f69),(70,Tryz.f70),(71,Tryz.f71),(72,Tryz.f72),(73,Tryz.f73),(74,Tryz.f74),(75,Tryz.f75),(76,Tryz.f76),(77,Tryz.f77),(78,Tryz.f78),(79,Tryz.f79),(80,Tryz.f80),(81,Tryz.f81),(82,Tryz.f82),(86,Tryz.f86),(87,Tryz.f87),(88,Tryz.f88),(89,Tryz.f89),(90,Tryz.f90),(91,Tryz.f91),(92,Tryz.f92),(93,Tryz.f93),(94,Tryz.f94),(95,Tryz.f95),(96,Tryz.f96),(97,Tryz.f97),(98,Tryz.f98),(99,Tryz.f99),(100,Tryz.f100),(101,Tryz.f101),(102,Tryz.f102),(103,Tryz.f103),(104,Tryz.f104),(105,Tryz.f105),(106,Tryz.f106),(107,Tryz.f107),(108,Tryz.f108),(109,Tryz.f109),(110,Tryz.f110),(111,Tryz.f111),(112,Tryz.f112),(113,Tryz.f113),(114,Tryz.f114),(115,Tryz.f115),(116,Tryz.f116),(118,Tryz.f118),(119,Tryz.f119),(120,Tryz.f120),(121,Tryz.f121),(122,Tryz.f122),(123,Tryz.f123),(124,Tryz.f124),(125,Tryz.f125),(126,Tryz.f126),(127,Tryz.f127),(128,Tryz.f128),(129,Tryz.f129),(130,Tryz.f130),(131,Tryz.f131),(132,Tryz.f132),(133,Tryz.f133),(134,Tryz.f134),(135,Tryz.f135),(138,Tryz.f138),(139,Tryz.f139),(140,Tryz.f140),(141,Tryz.f141),(142,Tryz.f142),(143,Tryz.f143),(144,Tryz.f144),(145,Tryz.f145),(147,Tryz.f147),(148,Tryz.f148),(149,Tryz.f149),(150,Tryz.f150),(151,Tryz.f151),(152,Tryz.f152),(153,Tryz.f153),(154,Tryz.f154),(155,Tryz.f155),(157,Tryz.f157),(158,Tryz.f158),(159,Tryz.f159),(160,Tryz.f160),(161,Tryz.f161),(162,Tryz.f162),(164,Tryz.f164),(165,Tryz.f165),(166,Tryz.f166)]
def hints:FuncId→gz
 | 3=>{ take:=fun r i=>match r,i with | 5,5=>true | 5,9=>true | 6,3=>true | 7,4=>true | 7,8=>true | 13,0=>true | 24,5=>true | 24,9=>true | 25,0=>true | 25,1=>true | 28,0=>true | _,_=>false,late:=fun i=>match i with | 5=>some [0,1,2,3,4,5,8,6,7,9,10] | 7=>some [0,1,2,3,4,7,5,6,8,9] | 24=>some [0,1,2,3,4,5,8,6,7,9,10] | _=>none,keep:=fun i=>match i with | 5=>some [2,3] | 7=>some [2,3,6,7,8] | 24=>some [2,3,6,7,9,12] | _=>none,draw:=fun i=>match i with | 5=>some (6,[[],[0],[],[0,1,2],[0,1,2,3],[0,1,2,3,4],[],[0,1,2,3,4,5],[0,1,2,3,4,5],[0,1,2,3,4,5,6,7],[0,1,2,3,4,5,6,7,8,9]]) | 7=>some (5,[[],[],[1],[0,1,2],[0,1,2,3],[],[0,1,2,3,4],[0,1,2,3,4],[0,1,2,3,4,5,6],[0,1,2,3,4,5,6,7,8]]) | 10=>some (3,[[],[],[1],[0,1,2],[0,1,2,3]]) | 24=>some (6,[[],[0],[],[0,1,2],[0,1,2,3],[0,1,2,3,4],[],[0,1,2,3,4,5],[0,1,2,3,4,5],[0,1,2,3,4,5,6,7],[0,1,2,3,4,5,6,7,8,9]]) | _=>none }
 | 7=>{ take:=fun r i=>match r,i with | 2,1=>true | 3,7=>true | 3,8=>true | _,_=>false,draw:=fun i=>match i with | 3=>some (7,[[],[0],[],[],[3],[3,4],[3,4,5],[0,1,2,3,4,5,6],[0,1,2,3,4,5,6,7],[0,1,2,3,4,5,6,7,8]]) | _=>none }
 | 8=>{ take:=fun r i=>match r,i with | 7,4=>true | 8,0=>true | 8,1=>true | _,_=>false }
 | 10=>{ take:=fun r i=>match r,i with | 2,1=>true | 3,3=>true | _,_=>false }
 | 22=>{ head:=fun i=>match i with | 5=>some [0,1,5] | _=>none,tail:=fun i e=>match i,e with | 5,.exit 0=>some [1] | 5,.ret=>some [4] | _,_=>none }
 | 23=>{ take:=fun r i=>match r,i with | 1,3=>true | 1,7=>true | 2,0=>true | _,_=>false,draw:=fun i=>match i with | 10=>some (7,[[],[0],[0,1],[0,1,2],[],[4],[4,5],[0,1,2,3,4,5,6],[0,1,2,3,4,5,6,7]]) | _=>none,head:=fun i=>match i with | 6=>some [1,7] | _=>none,tail:=fun i e=>match i,e with | 6,.exit 0=>some [1] | 6,.ret=>some [2] | _,_=>none }
 | 25=>{ take:=fun r i=>match r,i with | 1,3=>true | 5,8=>true | 6,0=>true | 6,1=>true | _,_=>false,head:=fun i=>match i with | 3=>some [0,3,4] | _=>none,tail:=fun i e=>match i,e with | 3,.exit 0=>some [3] | 3,.ret=>some [2] | _,_=>none }
 | 27=>{ draw:=fun i=>match i with | 17=>some (6,[[],[0],[0,1],[],[3],[3,4],[0,1,2,3,4,5],[0,1,2,3,4,5,6]]) | _=>none,head:=fun i=>match i with | 6=>some [1,40,41,42] | 11=>some [1,40,41,42,59,60,61] | _=>none,tail:=fun i e=>match i,e with | 6,.exit 0=>some [1] | 6,.ret=>some [2] | 11,.exit 0=>some [1] | 11,.exit 1=>some [1,40,41,42] | 11,.exit 2=>some [1,40,41,42] | 11,.ret=>some [2] | _,_=>none }
 | 28=>{ take:=fun r i=>match r,i with | 1,7=>true | 1,8=>true | _,_=>false,draw:=fun i=>match i with | 1=>some (7,[[],[0],[],[],[3],[3,4],[3,4,5],[0,1,2,3,4,5,6],[0,1,2,3,4,5,6,7]]) | _=>none }
 | 30=>{ draw:=fun i=>match i with | 6=>some (8,[[],[],[0,1],[0,1,2],[],[],[4,5],[4,5,6],[0,1,2,3,4,5,6,7],[0,1,2,3,4,5,6,7,8]]) | _=>none,head:=fun i=>match i with | 4=>some [0,1,5] | _=>none,tail:=fun i e=>match i,e with | 4,.exit 0=>some [] | 4,.ret=>some [4] | _,_=>none }
 | 31=>{ draw:=fun i=>match i with | 6=>some (8,[[],[],[0,1],[0,1,2],[],[],[4,5],[4,5,6],[0,1,2,3,4,5,6,7],[0,1,2,3,4,5,6,7,8]]) | _=>none,head:=fun i=>match i with | 4=>some [0,1,5] | _=>none,tail:=fun i e=>match i,e with | 4,.exit 0=>some [] | 4,.ret=>some [4] | _,_=>none }
 | 32=>{ head:=fun i=>match i with | 2=>some [0,1,5] | _=>none,tail:=fun i e=>match i,e with | 2,.exit 0=>some [0,1] | 2,.ret=>some [0,4] | _,_=>none }
 | 33=>{ head:=fun i=>match i with | 2=>some [0,1,5] | _=>none,tail:=fun i e=>match i,e with | 2,.exit 0=>some [0,1] | 2,.ret=>some [0,4] | _,_=>none }
 | 34=>{ head:=fun i=>match i with | 2=>some [0,1,5] | _=>none,tail:=fun i e=>match i,e with | 2,.exit 0=>some [1] | 2,.ret=>some [4] | _,_=>none }
 | 43=>{ take:=fun r i=>match r,i with | 1,2=>true | 1,5=>true | 3,1=>true | 4,2=>true | 5,1=>true | 6,5=>true | 6,9=>true | 7,5=>true | 7,9=>true | 8,5=>true | 8,9=>true | 9,5=>true | 9,9=>true | 10,1=>true | 10,5=>true | 10,9=>true | 15,1=>true | 16,0=>true | 16,1=>true | _,_=>false,head:=fun i=>match i with | 12=>some [2,6,7,8] | _=>none,tail:=fun i e=>match i,e with | 12,.exit 0=>some [2,6] | 12,.ret=>some [2,3] | _,_=>none }
 | 44=>{ draw:=fun i=>match i with | 3=>some (22,[[],[0],[0,1],[0,1,2],[],[4],[0,1,2,4,5],[0,1,2,3,4,5,6],[0,1,2,3,4,5,6,7],[],[9],[0,1,2,4,5,6,9,10],[0,1,2,3,4,5,6,7,8,9,10,11],[0,1,2,3,4,5,6,7,8,9,10,11,12],[],[14],[0,1,2,4,5,6,9,10,11,14,15],[0,1,2,3,4,5,6,7,8,9,10,11,12,13,14,15,16],[0,1,2,3,4,5,6,7,8,9,10,11,12,13,14,15,16,17],[],[19],[0,1,2,4,5,6,9,10,11,14,15,16,19,20],[0,1,2,3,4,5,6,7,8,9,10,11,12,13,14,15,16,17,18,19,20,21],[0,1,2,3,4,5,6,7,8,9,10,11,12,13,14,15,16,17,18,19,20,21,22],[0,1,2,3,4,5,6,7,8,9,10,11,12,13,14,15,16,17,18,19,20,21,22,23]]) | _=>none }
 | 45=>{ head:=fun i=>match i with | 4=>some [0,3] | _=>none,tail:=fun i e=>match i,e with | 4,.exit 0=>some [] | 4,.ret=>some [2] | _,_=>none }
 | 47=>{ draw:=fun i=>match i with | 7=>some (33,[[],[],[1],[],[1,2,3],[1,2,3,4],[0,1,2,3,4,5],[0,1,2,3,4,5,6],[0,1,2,3,4,5,6,7],[0,1,2,3,4,5,6,7,8],[0,1,2,3,4,5,6,7,8,9],[0,1,2,3,4,5,6,7,8],[0,1,2,3,4,5,6,7,8,9,10,11],[0,1,2,3,4,5,6,7,8,9,10,11,12],[0,1,2,3,4,5,6,7,8],[0,1,2,3,4,5,6,7,8,14],[0,1,2,3,4,5,6,7,8,9,10,11,12,13,14,15],[0,1,2,3,4,5,6,7,8,9,10,11,12,13,14,15,16],[0,1,2,3,4,5,6,7,8,9,10,11,12,13,14,15,16,17],[0,1,2,3,4,5,6,7,8,9,10,11,12,13,14,15,16,17,18],[0,1,2,3,4,5,6,7,8,9,10,11,12,13,14,15,16,17,18,19],[0,1,2,3,4,5,6,7,8,9,10,11,12,13,14,15,16,17,18,19,20],[0,1,2,3,4,5,6,7,8,9,10,11,12,13,14,15,16,17,18,19,20,21],[0,1,2,3,4,5,6,7,8,9,10,11,12,13,14,15,16,17,18,19,20,21,22],[0,1,2,3,4,5,6,7,8,9,10,11,12,13,14,15,16,17,18,19,20,21],[0,1,2,3,4,5,6,7,8,9,10,11,12,13,14,15,16,17,18,19,20,21,24],[0,1,2,3,4,5,6,7,8,9,10,11,12,13,14,15,16,17,18,19,20,21,22,23,24,25],[0,1,2,3,4,5,6,7,8,9,10,11,12,13,14,15,16,17,18,19,20,21,22,23,24,25,26],[0,1,2,3,4,5,6,7,8,9,10,11,12,13,14,15,16,17,18,19,20,21],[0,1,2,3,4,5,6,7,8,9,10,11,12,13,14,15,16,17,18,19,20,21,28],[0,1,2,3,4,5,6,7,8,9,10,11,12,13,14,15,16,17,18,19,20,21],[0,1,2,3,4,5,6,7,8,9,10,11,12,13,14,15,16,17,18,19,20,21,28,29,30],[0,1,2,3,4,5,6,7,8,9,10,11,12,13,14,15,16,17,18,19,20,21,28,29,30,31],[0,1,2,3,4,5,6,7,8,9,10,11,12,13,14,15,16,17,18,19,20,21,22,23,24,25,26,27,28,29,30,31,32],[0,1,2,3,4,5,6,7,8,9,10,11,12,13,14,15,16,17,18,19,20,21,22,23,24,25,26,27,28,29,30,31,32,33],[0,1,2,3,4,5,6,7,8,9,10,11,12,13,14,15,16,17,18,19,20,21,22,23,24,25,26,27,28,29,30,31,32,33,34]]) | _=>none,head:=fun i=>match i with | 5=>some [0,5,6] | _=>none,tail:=fun i e=>match i,e with | 5,.exit 0=>some [] | 5,.ret=>some [4] | _,_=>none }
 | 48=>{ take:=fun r i=>match r,i with | 1,1=>true | 15,0=>true | 15,4=>true | 17,0=>true | 17,1=>true | _,_=>false,head:=fun i=>match i with | 3=>some [0,3,4] | 6=>some [0,3,4,5] | 11=>some [0,3,4,5,6,7] | _=>none,tail:=fun i e=>match i,e with | 3,.exit 0=>some [3] | 3,.ret=>some [2] | 6,.exit 0=>some [3] | 6,.exit 1=>some [0,3,4] | 6,.exit 2=>some [0,3,4] | 6,.ret=>some [2] | 11,.exit 0=>some [3] | 11,.exit 1=>some [0,3,4] | 11,.exit 2=>some [0,3,4] | 11,.exit 3=>some [0,3,4,5] | 11,.exit 4=>some [0,3,4,5,6] | 11,.ret=>some [2] | _,_=>none }
 | 49=>{ take:=fun r i=>match r,i with | 6,4=>true | 7,0=>true | 7,1=>true | _,_=>false }
 | 50=>{ head:=fun i=>match i with | 2=>some [0,3] | _=>none,tail:=fun i e=>match i,e with | 2,.exit 0=>some [0] | 2,.ret=>some [2] | _,_=>none }
 | 51=>{ take:=fun r i=>match r,i with | 1,2=>true | 1,6=>true | 2,0=>true | _,_=>false }
 | 53=>{ head:=fun i=>match i with | 4=>some [1,28,29,30] | _=>none,tail:=fun i e=>match i,e with | 4,.exit 0=>some [] | 4,.ret=>some [2] | _,_=>none }
 | 55=>{ take:=fun r i=>match r,i with | 4,1=>true | 5,4=>true | _,_=>false,head:=fun i=>match i with | 2=>some [1,3] | _=>none,tail:=fun i e=>match i,e with | 2,.exit 0=>some [2] | 2,.ret=>some [2] | _,_=>none }
 | 58=>{ head:=fun i=>match i with | 4=>some [0,3] | _=>none,tail:=fun i e=>match i,e with | 4,.exit 0=>some [3] | 4,.ret=>some [2] | _,_=>none }
 | 59=>{ head:=fun i=>match i with | 2=>some [0,1,5] | _=>none,tail:=fun i e=>match i,e with | 2,.exit 0=>some [0,1] | 2,.ret=>some [0,4] | _,_=>none }
 | 65=>{ head:=fun i=>match i with | 5=>some [0,1,5] | _=>none,tail:=fun i e=>match i,e with | 5,.exit 0=>some [1] | 5,.ret=>some [4] | _,_=>none }
 | 66=>{ take:=fun r i=>match r,i with | 1,1=>true | 3,0=>true | 3,1=>true | 9,1=>true | 12,0=>true | 12,7=>true | 15,1=>true | 16,0=>true | 16,1=>true | _,_=>false,head:=fun i=>match i with | 6=>some [0,4,5,6] | _=>none,tail:=fun i e=>match i,e with | 6,.exit 0=>some [4] | 6,.ret=>some [2,3] | _,_=>none }
 | 67=>{ take:=fun r i=>match r,i with | 1,3=>true | 2,2=>true | 8,1=>true | 13,1=>true | 18,0=>true | 18,4=>true | 19,0=>true | 19,1=>true | _,_=>false,head:=fun i=>match i with | 4=>some [1,2,8,9,10] | 10=>some [1,2,8,9,10,12,13,15] | 15=>some [2,8,16,17] | _=>none,tail:=fun i e=>match i,e with | 4,.exit 0=>some [1,2,8] | 4,.ret=>some [6,7] | 10,.exit 0=>some [1,2,8] | 10,.exit 1=>some [1,2,8,9,10] | 10,.exit 2=>some [1,2,8,9,10] | 10,.ret=>some [6,7] | 15,.exit 4=>some [16] | 15,.ret=>some [6,7] | _,_=>none }
 | 69=>{ head:=fun i=>match i with | 5=>some [0,5,6] | _=>none,tail:=fun i e=>match i,e with | 5,.exit 0=>some [5] | 5,.ret=>some [4] | _,_=>none }
 | 70=>{ head:=fun i=>match i with | 2=>some [0,1,5] | _=>none,tail:=fun i e=>match i,e with | 2,.exit 0=>some [] | 2,.ret=>some [4] | _,_=>none }
 | 72=>{ head:=fun i=>match i with | 2=>some [0,1,5] | _=>none,tail:=fun i e=>match i,e with | 2,.exit 0=>some [] | 2,.ret=>some [4] | _,_=>none }
 | 73=>{ take:=fun r i=>match r,i with | 1,3=>true | 6,0=>true | 6,1=>true | _,_=>false,head:=fun i=>match i with | 3=>some [0,3,4] | _=>none,tail:=fun i e=>match i,e with | 3,.exit 0=>some [3] | 3,.ret=>some [2] | _,_=>none }
 | 74=>{ take:=fun r i=>match r,i with | 1,2=>true | 1,5=>true | 3,1=>true | 8,6=>true | 8,9=>true | 10,1=>true | 11,1=>true | 11,3=>true | 13,0=>true | 13,1=>true | _,_=>false,head:=fun i=>match i with | 6=>some [2,4,6,24,25] | _=>none,tail:=fun i e=>match i,e with | 6,.exit 0=>some [2,6] | 6,.ret=>some [2,3] | _,_=>none }
 | 75=>{ take:=fun r i=>match r,i with | 8,0=>true | 8,3=>true | 13,0=>true | 13,5=>true | 15,0=>true | 15,1=>true | 15,5=>true | 17,0=>true | _,_=>false,head:=fun i=>match i with | 5=>some [1,4,13,14] | 11=>some [1,4,7,13,14,28,29,30] | _=>none,tail:=fun i e=>match i,e with | 5,.exit 0=>some [4] | 5,.ret=>some [2,3] | 11,.exit 0=>some [4] | 11,.exit 1=>some [4,13,14] | 11,.exit 2=>some [1,4,7,13,14] | 11,.ret=>some [2,3] | _,_=>none }
 | 77=>{ head:=fun i=>match i with | 2=>some [0,1,7,8] | _=>none,tail:=fun i e=>match i,e with | 2,.exit 0=>some [] | 2,.ret=>some [4] | _,_=>none }
 | 79=>{ draw:=fun i=>match i with | 1=>some (10,[[],[],[],[2],[1,2,3],[0,1,2,3,4],[0,1,2,3,4,5],[0,1,2,3,4,5,6],[0,1,2,3,4,5,6,7],[0,1,2,3,4,5,6,7],[0,1,2,3,4,5,6,7,8,9],[0,1,2,3,4,5,6,7,8,9,10],[0,1,2,3,4,5,6,7,8,9,10,11]]) | _=>none }
 | 81=>{ head:=fun i=>match i with | 2=>some [0,2,10,11,12] | _=>none,tail:=fun i e=>match i,e with | 2,.exit 0=>some [] | 2,.ret=>some [6] | _,_=>none }
 | 82=>{ draw:=fun i=>match i with | 6=>some (8,[[],[],[0,1],[0,1,2],[],[],[4,5],[4,5,6],[0,1,2,3,4,5,6,7]]) | _=>none,head:=fun i=>match i with | 4=>some [0,1,5] | _=>none,tail:=fun i e=>match i,e with | 4,.exit 0=>some [] | 4,.ret=>some [4] | _,_=>none }
 | 86=>{ take:=fun r i=>match r,i with | 1,1=>true | 7,0=>true | 7,7=>true | 9,0=>true | 9,1=>true | _,_=>false,head:=fun i=>match i with | 4=>some [0,1,5,6,7] | _=>none,tail:=fun i e=>match i,e with | 4,.exit 0=>some [5] | 4,.ret=>some [4] | _,_=>none }
 | 87=>{ take:=fun r i=>match r,i with | 6,2=>true | 12,7=>true | _,_=>false }
 | 88=>{ draw:=fun i=>match i with | 4=>some (21,[[],[],[0,1],[0,1,2],[],[],[0,1,2,3,4,5],[0,1,2,3,4,5,6],[0,1,2,3,4,5,6,7],[0,1,2,3,4,5,6,7,8],[0,1,2,3,4,5,6,7,8,9],[0,1,2,3,4,5,6,7,8,9,10],[0,1,2,3,4,5,6,7,8,9,10,11],[0,1,2,3,4,5,6,7,8,9,10,11],[0,1,2,3,4,5,6,7,8,9,10,11,13],[0,1,2,3,4,5,6,7,8,9,10,11,12,13,14],[0,1,2,3,4,5,6,7,8,9,10,11,12,13,14,15],[0,1,2,3,4,5,6,7,8,9,10,11],[0,1,2,3,4,5,6,7,8,9,10,11],[0,1,2,3,4,5,6,7,8,9,10,11,17,18],[0,1,2,3,4,5,6,7,8,9,10,11,17,18,19],[0,1,2,3,4,5,6,7,8,9,10,11,12,13,14,15,16,17,18,19,20],[0,1,2,3,4,5,6,7,8,9,10,11,12,13,14,15,16,17,18,19,20,21],[0,1,2,3,4,5,6,7,8,9,10,11,12,13,14,15,16,17,18,19,20,21,22]]) | _=>none,head:=fun i=>match i with | 2=>some [0,1,2,7] | _=>none,tail:=fun i e=>match i,e with | 2,.exit 0=>some [0] | 2,.ret=>some [6] | _,_=>none }
 | 89=>{ head:=fun i=>match i with | 5=>some [0,3,4] | _=>none,tail:=fun i e=>match i,e with | 5,.exit 0=>some [3,4] | 5,.ret=>some [2] | _,_=>none }
 | 90=>{ take:=fun r i=>match r,i with | 13,0=>true | 13,4=>true | 17,0=>true | 17,1=>true | _,_=>false,head:=fun i=>match i with | 4=>some [0,4] | 10=>some [5,28,29,30] | _=>none,tail:=fun i e=>match i,e with | 4,.exit 0=>some [0] | 4,.ret=>some [2,3] | 10,.exit 2=>some [5] | 10,.ret=>some [2,3] | _,_=>none }
 | 91=>{ draw:=fun i=>match i with | 1=>some (15,[[],[0],[0,1],[],[3],[3,4],[],[6],[6,7],[],[9],[9,10],[],[12],[12,13],[0,1,2,3,4,5,6,7,8,9,10,11,12,13,14],[0,1,2,3,4,5,6,7,8,9,10,11,12,13,14,15]]) | _=>none }
 | 92=>{ take:=fun r i=>match r,i with | 12,0=>true | 12,4=>true | 15,0=>true | 15,3=>true | _,_=>false,head:=fun i=>match i with | 4=>some [6,7,8,22,23,24] | 10=>some [6,7,8,12,13,15,22,23,24] | _=>none,tail:=fun i e=>match i,e with | 4,.exit 0=>some [8] | 4,.ret=>some [4,5] | 10,.exit 0=>some [8] | 10,.exit 1=>some [6,7,8,22,23,24] | 10,.exit 2=>some [6,7,8,22,23,24] | 10,.ret=>some [4,5] | _,_=>none }
 | 93=>{ head:=fun i=>match i with | 2=>some [1,10,11] | 7=>some [1,5,6,7,10,11,23,24,25] | _=>none,tail:=fun i e=>match i,e with | 2,.exit 0=>some [] | 2,.ret=>some [2] | 7,.exit 0=>some [] | 7,.exit 1=>some [10,11] | 7,.exit 2=>some [1,7,10,11] | 7,.ret=>some [2] | _,_=>none }
 | 96=>{ head:=fun i=>match i with | 12=>some [0,1,5,39,40,41] | 22=>some [1,8,63,64,65] | _=>none,tail:=fun i e=>match i,e with | 12,.exit 1=>some [0,1,5] | 12,.ret=>some [4] | 22,.exit 3=>some [8] | 22,.ret=>some [4] | _,_=>none }
 | 97=>{ head:=fun i=>match i with | 2=>some [0,1,7,8] | _=>none,tail:=fun i e=>match i,e with | 2,.exit 0=>some [] | 2,.ret=>some [4] | _,_=>none }
 | 99=>{ head:=fun i=>match i with | 5=>some [0,4,5] | _=>none,tail:=fun i e=>match i,e with | 5,.exit 0=>some [0,4] | 5,.ret=>some [2,3] | _,_=>none }
 | 105=>{ draw:=fun i=>match i with | 6=>some (9,[[],[],[0,1],[0,1,2],[],[],[5],[4,5,6],[4,5,6,7],[0,1,2,3,4,5,6,7,8]]) | 11=>some (9,[[],[],[0,1],[0,1,2],[],[],[5],[4,5,6],[4,5,6,7],[0,1,2,3,4,5,6,7,8]]) | _=>none,head:=fun i=>match i with | 4=>some [0,3] | 9=>some [0,3,4,5] | _=>none,tail:=fun i e=>match i,e with | 4,.exit 0=>some [0] | 4,.ret=>some [2] | 9,.exit 0=>some [0] | 9,.exit 1=>some [0,3] | 9,.exit 2=>some [0,3] | 9,.ret=>some [2] | _,_=>none }
 | 107=>{ draw:=fun i=>match i with | 3=>some (12,[[],[0],[0,1],[0,1,2],[0,1,2,3],[],[5],[5,6],[5,6,7],[5,6,7,8],[0,1,2,3,4,5,6,7,8,9],[],[0,1,2,3,4,5,6,7,8,9,10,11]]) | _=>none }
 | 109=>{ draw:=fun i=>match i with | 1=>some (10,[[],[0],[0,1],[0,1,2],[0,1,2,3],[],[5],[5,6],[5,6,7],[5,6,7,8],[0,1,2,3,4,5,6,7,8,9],[0,1,2,3,4,5,6,7,8,9,10]]) | _=>none }
 | 110=>{ draw:=fun i=>match i with | 17=>some (12,[[],[0],[0,1],[0,1,2],[0,1,2],[0,1,2,4],[0,1,2,3,4,5],[0,1,2,3,4,5,6],[0,1,2],[0,1,2],[0,1,2,8,9],[0,1,2,8,9,10],[0,1,2,3,4,5,6,7,8,9,10,11],[0,1,2,3,4,5,6,7,8,9,10,11,12],[0,1,2,3,4,5,6,7,8,9,10,11,12,13]]) | _=>none,head:=fun i=>match i with | 2=>some [0,1,2,3,8,9] | _=>none,tail:=fun i e=>match i,e with | 2,.exit 0=>some [] | 2,.ret=>some [] | _,_=>none }
 | 112=>{ head:=fun i=>match i with | 11=>some [0,1,2,3,9,10] | _=>none,tail:=fun i e=>match i,e with | 11,.exit 0=>some [0,9,10] | 11,.ret=>some [8] | _,_=>none }
 | 114=>{ head:=fun i=>match i with | 5=>some [0,4,5] | _=>none,tail:=fun i e=>match i,e with | 5,.exit 0=>some [0,4] | 5,.ret=>some [2,3] | _,_=>none }
 | 118=>{ draw:=fun i=>match i with | 0=>some (14,[[],[0],[0,1],[0,1,2],[0,1,2,3],[0,1,2,3,4],[],[0,1,2,3,4,5,6],[0,1,2,3,4,5,6,7],[],[9],[9,10],[9,10,11],[9,10,11,12],[0,1,2,3,4,5,6,7,8,9,10,11,12,13],[0,1,2,3,4,5,6,7,8,9,10,11,12,13,14]]) | _=>none }
 | 119=>{ draw:=fun i=>match i with | 4=>some (13,[[],[],[0,1],[0,1,2],[0,1,2,3],[0,1,2,3],[0,1,2,3,4,5],[0,1,2,3,4,5,6],[0,1,2,3],[0,1,2,3],[0,1,2,3,9],[0,1,2,3,8,9,10],[0,1,2,3,8,9,10,11],[0,1,2,3,4,5,6,7,8,9,10,11,12],[0,1,2,3,4,5,6,7,8,9,10,11,12,13]]) | 6=>some (16,[[],[],[],[],[3],[],[],[6],[5,6,7],[5,6,7,8],[],[],[10,11],[10,11,12],[0,1,5,6,7,8,9,10,11,12,13],[0,1,5,6,7,8,9,10,11,12,13,14],[0,1,2,3,4,5,6,7,8,9,10,11,12,13,14,15],[0,1,2,3,4,5,6,7,8,9,10,11,12,13,14,15,16]]) | _=>none,head:=fun i=>match i with | 1=>some [0,1,2,6] | 4=>some [0,1,2,6,7] | _=>none,tail:=fun i e=>match i,e with | 1,.exit 0=>some [] | 1,.ret=>some [] | 4,.exit 0=>some [] | 4,.exit 1=>some [0,1,2,6] | 4,.exit 2=>some [0,1,2,6] | 4,.ret=>some [] | _,_=>none }
 | 120=>{ draw:=fun i=>match i with | 10=>some (18,[[],[],[],[],[],[3,4],[],[],[],[7,8],[6,7,8,9],[6,7,8,9,10],[],[],[12,13],[12,13,14],[0,1,6,7,8,9,10,11,12,13,14,15],[0,1,6,7,8,9,10,11,12,13,14,15,16],[0,1,2,3,4,5,6,7,8,9,10,11,12,13,14,15,16,17],[0,1,2,3,4,5,6,7,8,9,10,11,12,13,14,15,16,17,18]]) | _=>none,head:=fun i=>match i with | 4=>some [0,6,7,8,9] | 8=>some [0,6,7,10] | _=>none,tail:=fun i e=>match i,e with | 4,.exit 0=>some [0,6,7,8] | 4,.ret=>some [] | 8,.exit 2=>some [] | 8,.ret=>some [] | _,_=>none }
 | 121=>{ draw:=fun i=>match i with | 10=>some (18,[[],[],[],[],[],[3,4],[],[],[],[7,8],[6,7,8,9],[6,7,8,9,10],[],[],[12,13],[12,13,14],[0,1,6,7,8,9,10,11,12,13,14,15],[0,1,6,7,8,9,10,11,12,13,14,15,16],[0,1,2,3,4,5,6,7,8,9,10,11,12,13,14,15,16,17],[0,1,2,3,4,5,6,7,8,9,10,11,12,13,14,15,16,17,18]]) | _=>none,head:=fun i=>match i with | 5=>some [0,1,6,7,8,9] | _=>none,tail:=fun i e=>match i,e with | 5,.exit 0=>some [] | 5,.ret=>some [] | _,_=>none }
 | 123=>{ draw:=fun i=>match i with | 3=>some (14,[[],[],[],[],[],[],[4,5],[4,5,6],[],[],[8,9],[8,9,10],[0,1,4,5,6,7,8,9,10,11],[0,1,4,5,6,7,8,9,10,11,12],[0,1,2,3,4,5,6,7,8,9,10,11,12,13],[0,1,2,3,4,5,6,7,8,9,10,11,12,13,14]]) | _=>none,head:=fun i=>match i with | 2=>some [0,6,7] | _=>none,tail:=fun i e=>match i,e with | 2,.exit 0=>some [] | 2,.ret=>some [] | _,_=>none }
 | 124=>{ draw:=fun i=>match i with | 5=>some (13,[[],[],[0,1],[0,1,2],[0,1,2,3],[0,1,2,3],[0,1,2,3,4,5],[0,1,2,3,4,5,6],[0,1,2,3],[0,1,2,3],[0,1,2,3,9],[0,1,2,3,8,9,10],[0,1,2,3,8,9,10,11],[0,1,2,3,4,5,6,7,8,9,10,11,12],[0,1,2,3,4,5,6,7,8,9,10,11,12,13],[0,1,2,3,4,5,6,7,8,9,10,11,12,13,14]]) | 11=>some (16,[[],[],[],[],[3],[],[],[6],[5,6,7],[5,6,7,8],[],[],[10,11],[10,11,12],[0,1,5,6,7,8,9,10,11,12,13],[0,1,5,6,7,8,9,10,11,12,13,14],[0,1,2,3,4,5,6,7,8,9,10,11,12,13,14,15],[0,1,2,3,4,5,6,7,8,9,10,11,12,13,14,15,16]]) | 16=>some (9,[[],[],[0,1],[0,1,2],[],[],[5],[4,5,6],[4,5,6,7],[0,1,2,3,4,5,6,7,8],[0,1,2,3,4,5,6,7,8,9]]) | 17=>some (16,[[],[],[],[],[3],[],[],[6],[5,6,7],[5,6,7,8],[],[],[10,11],[10,11,12],[0,1,5,6,7,8,9,10,11,12,13],[0,1,5,6,7,8,9,10,11,12,13,14],[0,1,2,3,4,5,6,7,8,9,10,11,12,13,14,15],[0,1,2,3,4,5,6,7,8,9,10,11,12,13,14,15,16]]) | 22=>some (9,[[],[],[0,1],[0,1,2],[],[],[5],[4,5,6],[4,5,6,7],[0,1,2,3,4,5,6,7,8],[0,1,2,3,4,5,6,7,8,9]]) | 23=>some (16,[[],[],[],[],[3],[],[],[6],[5,6,7],[5,6,7,8],[],[],[10,11],[10,11,12],[0,1,5,6,7,8,9,10,11,12,13],[0,1,5,6,7,8,9,10,11,12,13,14],[0,1,2,3,4,5,6,7,8,9,10,11,12,13,14,15],[0,1,2,3,4,5,6,7,8,9,10,11,12,13,14,15,16]]) | _=>none,head:=fun i=>match i with | 3=>some [0,1,2,7,8] | 5=>some [0,1,2,7,8] | 14=>some [0,1,2,7,8,9] | 20=>some [0,1,2,7,8,10] | _=>none,tail:=fun i e=>match i,e with | 3,.exit 0=>some [] | 3,.ret=>some [6] | 5,.exit 0=>some [] | 5,.exit 1=>some [0,1,2,7,8] | 5,.exit 2=>some [0,1,2,7,8] | 5,.ret=>some [6] | 14,.exit 0=>some [] | 14,.exit 1=>some [0,1,2,7,8] | 14,.exit 4=>some [0,1,2,7,8] | 14,.ret=>some [6] | 20,.exit 0=>some [] | 20,.exit 1=>some [0,1,2,7,8] | 20,.exit 6=>some [0,1,2,7,8] | 20,.ret=>some [6] | _,_=>none }
 | 126=>{ draw:=fun i=>match i with | 1=>some (14,[[],[],[],[],[],[],[4,5],[4,5,6],[],[],[8,9],[8,9,10],[0,1,4,5,6,7,8,9,10,11],[0,1,4,5,6,7,8,9,10,11,12],[0,1,2,3,4,5,6,7,8,9,10,11,12,13],[0,1,2,3,4,5,6,7,8,9,10,11,12,13,14]]) | 3=>some (12,[[],[],[0,1],[0,1,2],[0,1,2,3],[0,1,2,3],[0,1,2,3,4,5],[0,1,2,3,4,5,6],[0,1,2,3],[0,1,2,3],[0,1,2,3,8,9],[0,1,2,3,8,9,10],[0,1,2,3,4,5,6,7,8,9,10,11],[0,1,2,3,4,5,6,7,8,9,10,11,12],[0,1,2,3,4,5,6,7,8,9,10,11,12,13]]) | 5=>some (12,[[],[],[0,1],[0,1,2],[0,1,2,3],[0,1,2,3],[0,1,2,3,4,5],[0,1,2,3,4,5,6],[0,1,2,3],[0,1,2,3],[0,1,2,3,8,9],[0,1,2,3,8,9,10],[0,1,2,3,4,5,6,7,8,9,10,11],[0,1,2,3,4,5,6,7,8,9,10,11,12]]) | 8=>some (14,[[],[],[],[],[],[],[4,5],[4,5,6],[],[],[8,9],[8,9,10],[0,1,4,5,6,7,8,9,10,11],[0,1,4,5,6,7,8,9,10,11,12],[0,1,2,3,4,5,6,7,8,9,10,11,12,13],[0,1,2,3,4,5,6,7,8,9,10,11,12,13,14]]) | _=>none,head:=fun i=>match i with | 7=>some [0,1,9,10] | 3=>some [0,1,9,10] | 5=>some [0,1,9,10] | _=>none,tail:=fun i e=>match i,e with | 7,.exit 0=>some [9] | 7,.ret=>some [8] | 3,.exit 0=>some [9] | 3,.exit 1=>some [0,1,9,10] | 3,.exit 2=>some [0,1,9,10] | 3,.ret=>some [8] | 5,.exit 0=>some [9] | 5,.exit 1=>some [0,1,9,10] | 5,.exit 4=>some [0,1,9,10] | 5,.ret=>some [8] | _,_=>none }
 | 127=>{ draw:=fun i=>match i with | 1=>some (14,[[],[],[],[],[],[],[4,5],[4,5,6],[],[],[8,9],[8,9,10],[0,1,4,5,6,7,8,9,10,11],[0,1,4,5,6,7,8,9,10,11,12],[0,1,2,3,4,5,6,7,8,9,10,11,12,13],[0,1,2,3,4,5,6,7,8,9,10,11,12,13,14]]) | 3=>some (12,[[],[],[0,1],[0,1,2],[0,1,2,3],[0,1,2,3],[0,1,2,3,4,5],[0,1,2,3,4,5,6],[0,1,2,3],[0,1,2,3],[0,1,2,3,8,9],[0,1,2,3,8,9,10],[0,1,2,3,4,5,6,7,8,9,10,11],[0,1,2,3,4,5,6,7,8,9,10,11,12]]) | 5=>some (12,[[],[],[0,1],[0,1,2],[0,1,2,3],[0,1,2,3],[0,1,2,3,4,5],[0,1,2,3,4,5,6],[0,1,2,3],[0,1,2,3],[0,1,2,3,8,9],[0,1,2,3,8,9,10],[0,1,2,3,4,5,6,7,8,9,10,11],[0,1,2,3,4,5,6,7,8,9,10,11,12],[0,1,2,3,4,5,6,7,8,9,10,11,12,13]]) | 8=>some (14,[[],[],[],[],[],[],[4,5],[4,5,6],[],[],[8,9],[8,9,10],[0,1,4,5,6,7,8,9,10,11],[0,1,4,5,6,7,8,9,10,11,12],[0,1,2,3,4,5,6,7,8,9,10,11,12,13],[0,1,2,3,4,5,6,7,8,9,10,11,12,13,14]]) | 10=>some (14,[[],[],[],[],[],[],[4,5],[4,5,6],[],[],[8,9],[8,9,10],[0,1,4,5,6,7,8,9,10,11],[0,1,4,5,6,7,8,9,10,11,12],[0,1,2,3,4,5,6,7,8,9,10,11,12,13],[0,1,2,3,4,5,6,7,8,9,10,11,12,13,14]]) | 13=>some (12,[[],[],[0,1],[0,1,2],[0,1,2,3],[0,1,2,3],[0,1,2,3,4,5],[0,1,2,3,4,5,6],[0,1,2,3],[0,1,2,3],[0,1,2,3,8,9],[0,1,2,3,8,9,10],[0,1,2,3,4,5,6,7,8,9,10,11],[0,1,2,3,4,5,6,7,8,9,10,11,12]]) | 15=>some (12,[[],[],[0,1],[0,1,2],[0,1,2,3],[0,1,2,3],[0,1,2,3,4,5],[0,1,2,3,4,5,6],[0,1,2,3],[0,1,2,3],[0,1,2,3,8,9],[0,1,2,3,8,9,10],[0,1,2,3,4,5,6,7,8,9,10,11],[0,1,2,3,4,5,6,7,8,9,10,11,12],[0,1,2,3,4,5,6,7,8,9,10,11,12,13]]) | 18=>some (14,[[],[],[],[],[],[],[4,5],[4,5,6],[],[],[8,9],[8,9,10],[0,1,4,5,6,7,8,9,10,11],[0,1,4,5,6,7,8,9,10,11,12],[0,1,2,3,4,5,6,7,8,9,10,11,12,13],[0,1,2,3,4,5,6,7,8,9,10,11,12,13,14]]) | 21=>some (14,[[],[],[],[],[],[],[4,5],[4,5,6],[],[],[8,9],[8,9,10],[0,1,4,5,6,7,8,9,10,11],[0,1,4,5,6,7,8,9,10,11,12],[0,1,2,3,4,5,6,7,8,9,10,11,12,13],[0,1,2,3,4,5,6,7,8,9,10,11,12,13,14]]) | _=>none,head:=fun i=>match i with | 3=>some [0,1,10,11] | 5=>some [0,1,10,11] | 17=>some [0,1,10,11] | 13=>some [0,1,10,11] | 15=>some [0,1,10,11] | _=>none,tail:=fun i e=>match i,e with | 3,.exit 0=>some [0,1,10,11] | 3,.ret=>some [8,9] | 5,.exit 2=>some [0,1,10,11] | 5,.ret=>some [8,9] | 17,.exit 4=>some [0,1,11] | 17,.ret=>some [8,9] | 13,.exit 4=>some [0,1,11] | 13,.exit 5=>some [0,1,10,11] | 13,.exit 6=>some [0,1,10,11] | 13,.ret=>some [8,9] | 15,.exit 4=>some [0,1,11] | 15,.exit 5=>some [0,1,10,11] | 15,.exit 8=>some [0,1,10,11] | 15,.ret=>some [8,9] | _,_=>none }
 | 130=>{ head:=fun i=>match i with | 6=>some [0,1,6,7] | _=>none,tail:=fun i e=>match i,e with | 6,.exit 0=>some [0,1,6] | 6,.ret=>some [4] | _,_=>none }
 | 131=>{ head:=fun i=>match i with | 6=>some [0,1,5] | _=>none,tail:=fun i e=>match i,e with | 6,.exit 0=>some [4] | 6,.ret=>some [4] | _,_=>none }
 | 134=>{ draw:=fun i=>match i with | 3=>some (10,[[],[],[0,1],[],[],[],[5],[4,5,6],[3,4,5,6,7],[0,1,2],[0,1,2,3,4,5,6,7,8,9],[0,1,2,3,4,5,6,7,8,9,10]]) | _=>none }
 | 138=>{ draw:=fun i=>match i with | 3=>some (18,[[],[0],[],[0,1,2],[0,1,2,3],[0,1,2,3,4],[0,1,2,3,4],[0,1,2,3,4],[0,1,2,3,4,6,7],[0,1,2,3,4,5,6,7,8],[0,1,2,3,4,5,6,7,8,9],[0,1,2,3,4],[0,1,2,3,4],[0,1,2,3,4],[0,1,2,3,4,12,13],[0,1,2,3,4,12,13,14],[0,1,2,3,4,11,12,13,14,15],[0,1,2,3,4,11,12,13,14,15,16],[0,1,2,3,4,5,6,7,8,9,10,11,12,13,14,15,16,17],[0,1,2,3,4,5,6,7,8,9,10,11,12,13,14,15,16,17,18]]) | 5=>some (12,[[],[],[],[1,2],[0,1,2,3],[0,1,2,3,4],[],[],[],[7,8],[6,7,8,9],[6,7,8,9,10],[0,1,2,3,4,5,6,7,8,9,10,11],[0,1,2,3,4,5,6,7,8,9,10,11,12]]) | 6=>some (22,[[],[],[],[1,2],[],[],[],[5,6],[],[],[],[9,10],[8,9,10,11],[8,9,10,11,12],[],[],[],[15,16],[14,15,16,17],[14,15,16,17,18],[0,1,2,3,8,9,10,11,12,13,14,15,16,17,18,19],[0,1,2,3,8,9,10,11,12,13,14,15,16,17,18,19,20],[0,1,2,3,4,5,6,7,8,9,10,11,12,13,14,15,16,17,18,19,20,21],[0,1,2,3,4,5,6,7,8,9,10,11,12,13,14,15,16,17,18,19,20,21,22]]) | _=>none,head:=fun i=>match i with | 1=>some [0,2,3,8] | _=>none,tail:=fun i e=>match i,e with | 1,.exit 0=>some [] | 1,.ret=>some [] | _,_=>none }
 | 140=>{ draw:=fun i=>match i with | 1=>some (7,[[],[0],[0,1],[],[3],[3,4],[3,4,5],[0,1,2,3,4,5,6],[0,1,2,3,4,5,6,7],[0,1,2,3,4,5,6,7,8]]) | 2=>some (7,[[],[0],[0,1],[],[3],[3,4],[3,4,5],[0,1,2,3,4,5,6],[0,1,2,3,4,5,6,7],[0,1,2,3,4,5,6,7,8]]) | 3=>some (7,[[],[0],[0,1],[],[3],[3,4],[3,4,5],[0,1,2,3,4,5,6],[0,1,2,3,4,5,6,7],[0,1,2,3,4,5,6,7,8]]) | _=>none }
 | 144=>{ head:=fun i=>match i with | 2=>some [2,4] | _=>none,tail:=fun i e=>match i,e with | 2,.exit 0=>some [2] | 2,.ret=>some [2] | _,_=>none }
 | 147=>{ head:=fun i=>match i with | 15=>some [0,1,5,6,7,8,9,10] | _=>none,tail:=fun i e=>match i,e with | 15,.exit 1=>some [] | 15,.ret=>some [4] | _,_=>none }
 | 151=>{ draw:=fun i=>match i with | 7=>some (13,[[],[],[1],[],[],[4],[],[6],[6,7],[],[9],[0,1,2,6,7,8],[0,1,2,6,7,8,11],[0,1,2,3,4,5,6,7,8,9,10,11,12],[0,1,2,3,4,5,6,7,8,9,10,11,12,13]]) | 8=>some (13,[[],[],[1],[],[],[4],[],[6],[6,7],[],[9],[0,1,2,6,7,8],[0,1,2,6,7,8,11],[0,1,2,3,4,5,6,7,8,9,10,11,12],[0,1,2,3,4,5,6,7,8,9,10,11,12,13]]) | 9=>some (13,[[],[],[1],[],[],[4],[],[6],[6,7],[],[9],[0,1,2,6,7,8],[0,1,2,6,7,8,11],[0,1,2,3,4,5,6,7,8,9,10,11,12],[0,1,2,3,4,5,6,7,8,9,10,11,12,13]]) | 10=>some (13,[[],[],[1],[],[],[4],[],[6],[6,7],[],[9],[0,1,2,6,7,8],[0,1,2,6,7,8,11],[0,1,2,3,4,5,6,7,8,9,10,11,12],[0,1,2,3,4,5,6,7,8,9,10,11,12,13]]) | 17=>some (13,[[],[],[1],[],[],[4],[],[6],[6,7],[],[9],[0,1,2,6,7,8],[0,1,2,6,7,8,11],[0,1,2,3,4,5,6,7,8,9,10,11,12],[0,1,2,3,4,5,6,7,8,9,10,11,12,13]]) | 18=>some (13,[[],[],[1],[],[],[4],[],[6],[6,7],[],[9],[0,1,2,6,7,8],[0,1,2,6,7,8,11],[0,1,2,3,4,5,6,7,8,9,10,11,12],[0,1,2,3,4,5,6,7,8,9,10,11,12,13]]) | 23=>some (13,[[],[],[1],[],[],[4],[],[6],[6,7],[],[9],[0,1,2,6,7,8],[0,1,2,6,7,8,11],[0,1,2,3,4,5,6,7,8,9,10,11,12],[0,1,2,3,4,5,6,7,8,9,10,11,12,13]]) | _=>none,head:=fun i=>match i with | 1=>some [0,1,4] | _=>none,tail:=fun i e=>match i,e with | 1,.exit 0=>some [0,1,4] | 1,.ret=>some [] | _,_=>none }
 | 152=>{ head:=fun i=>match i with | 11=>some [0,1,3,4,10,11,12,13,14,15,16] | 18=>some [0,1,3,4,10,11,12,13,17] | _=>none,tail:=fun i e=>match i,e with | 11,.exit 0=>some [0,1,3,4,10,11,12,13] | 11,.ret=>some [10,11] | 18,.exit 2=>some [0,1,3,4,10,11,12,13] | 18,.ret=>some [10,11] | _,_=>none }
 | 153=>{ draw:=fun i=>match i with | 1=>some (8,[[],[],[0,1],[0,1,2],[],[],[4,5],[4,5,6],[0,1,2,3,4,5,6,7]]) | _=>none }
 | 158=>{ head:=fun i=>match i with | 5=>some [0,1,5,6,7,8,9] | 11=>some [0,1,5,6,7,8,10] | _=>none,tail:=fun i e=>match i,e with | 5,.exit 0=>some [0,1,5,6,7,8] | 5,.ret=>some [4] | 11,.exit 2=>some [] | 11,.ret=>some [4] | _,_=>none }
 | 164=>{ head:=fun i=>match i with | 3=>some [0,4,5] | 8=>some [4,6,7,8] | _=>none,tail:=fun i e=>match i,e with | 3,.exit 0=>some [0,4] | 3,.ret=>some [2,3] | 8,.exit 2=>some [4,6] | 8,.ret=>some [2,3] | _,_=>none }
 | _=>{}
theorem pG {α:Type} {p:α→Prop}:∀ x∈([]:List α),p x:=fun x h=>by cases h
theorem af {α:Type} {p:α→Prop} {a:α} {l:List α} (h:p a) (t:∀ x∈l,p x):∀ x∈a::l,p x:=fun x hx=>by
 rcases List.mem_cons.1 hx with rfl | hx
 ·exact h
 ·exact t x hx
theorem H1:∀ p∈tab.ts,jv Tryz.prog p.1=some p.2:=af (by kernel_rfl) (af (by kernel_rfl) (af (by kernel_rfl) (af (by kernel_rfl) (af (by kernel_rfl) (af (by kernel_rfl) (af (by kernel_rfl) (af (by kernel_rfl) (af (by kernel_rfl) (af (by kernel_rfl) (af (by kernel_rfl) (af (by kernel_rfl) (af (by kernel_rfl) (af (by kernel_rfl) (af (by kernel_rfl) (af (by kernel_rfl) (af (by kernel_rfl) (af (by kernel_rfl) (af (by kernel_rfl) (af (by kernel_rfl) (af (by kernel_rfl) (af (by kernel_rfl) (af (by kernel_rfl) (af (by kernel_rfl) (af (by kernel_rfl) (af (by kernel_rfl) (af (by kernel_rfl) (af (by kernel_rfl) (af (by kernel_rfl) (af (by kernel_rfl) (af (by kernel_rfl) (af (by kernel_rfl) (af (by kernel_rfl) (af (by kernel_rfl) (af (by kernel_rfl) (af (by kernel_rfl) (af (by kernel_rfl) (af (by kernel_rfl) (af (by kernel_rfl) (af (by kernel_rfl) (af (by kernel_rfl) (af (by kernel_rfl) (af (by kernel_rfl) (af (by kernel_rfl) (af (by kernel_rfl) (af (by kernel_rfl) (af (by kernel_rfl) (af (by kernel_rfl) (af (by kernel_rfl) (af (by kernel_rfl) (af (by kernel_rfl) (af (by kernel_rfl) (pG))))))))))))))))))))))))))))))))))))))))))))))))))))
theorem Hw:∀ p∈tab.eqs,De Tryz.prog p.1=some p.2:=af (by kernel_rfl) (af (by kernel_rfl) (af (by kernel_rfl) (af (by kernel_rfl) (af (by kernel_rfl) (af (by kernel_rfl) (af (by kernel_rfl) (af (by kernel_rfl) (pG))))))))
theorem HN:∀ p∈tab.pls,mj Tryz.prog p.1=some p.2:=af (by kernel_rfl) (af (by kernel_rfl) (af (by kernel_rfl) (af (by kernel_rfl) (af (by kernel_rfl) (af (by kernel_rfl) (af (by kernel_rfl) (af (by kernel_rfl) (af (by kernel_rfl) (af (by kernel_rfl) (af (by kernel_rfl) (af (by kernel_rfl) (af (by kernel_rfl) (af (by kernel_rfl) (af (by kernel_rfl) (af (by kernel_rfl) (af (by kernel_rfl) (af (by kernel_rfl) (af (by kernel_rfl) (af (by kernel_rfl) (af (by kernel_rfl) (af (by kernel_rfl) (af (by kernel_rfl) (af (by kernel_rfl) (af (by kernel_rfl) (pG)))))))))))))))))))))))))
theorem Hs:∀ p∈tab.ars,FU Tryz.prog p.1=some p.2:=af (by kernel_rfl) (pG)
theorem GS:∀ p∈tab.addr,y9 Tryz.prog p.1 p.2:=af Eu (pG)
theorem HQ:a8 Tryz.prog tab:=⟨H1,Hw,HN,by kernel_rfl,Hs,GS⟩
theorem Gl : ∀ p ∈ GK, Tryz.prog.funcs[p.1]? = some p.2 ∧ (p.2.name == "runtime.NumGoroutine") = false ∧ p.2.body.isNone = false := af ⟨Tryz.func3, by kernel_rfl, by kernel_rfl⟩ (af ⟨Tryz.func6, by kernel_rfl, by kernel_rfl⟩ (af ⟨Tryz.func7, by kernel_rfl, by kernel_rfl⟩ (af ⟨Tryz.func8, by kernel_rfl, by kernel_rfl⟩ (af ⟨Tryz.func9, by kernel_rfl, by kernel_rfl⟩ (af ⟨Tryz.func10, by kernel_rfl, by kernel_rfl⟩ (af ⟨Tryz.func11, by kernel_rfl, by kernel_rfl⟩ (af ⟨Tryz.func12, by kernel_rfl, by kernel_rfl⟩ (af ⟨Tryz.func13, by kernel_rfl, by kernel_rfl⟩ (af ⟨Tryz.func14, by kernel_rfl, by kernel_rfl⟩ (af ⟨Tryz.func15, by kernel_rfl, by kernel_rfl⟩ (af ⟨Tryz.func22, by kernel_rfl, by kernel_rfl⟩ (af ⟨Tryz.func23, by kernel_rfl, by kernel_rfl⟩ (af ⟨Tryz.func24, by kernel_rfl, by kernel_rfl⟩ (af ⟨Tryz.func25, by kernel_rfl, by kernel_rfl⟩ (af ⟨Tryz.func26, by kernel_rfl, by kernel_rfl⟩ (af ⟨Tryz.func27, by kernel_rfl, by kernel_rfl⟩ (af ⟨Tryz.func28, by kernel_rfl, by kernel_rfl⟩ (af ⟨Tryz.func29, by kernel_rfl, by kernel_rfl⟩ (af ⟨Tryz.func30, by kernel_rfl, by kernel_rfl⟩ (af ⟨Tryz.func31, by kernel_rfl, by kernel_rfl⟩ (af ⟨Tryz.func32, by kernel_rfl, by kernel_rfl⟩ (af ⟨Tryz.func33, by kernel_rfl, by kernel_rfl⟩ (af ⟨Tryz.func34, by kernel_rfl, by kernel_rfl⟩ (af ⟨Tryz.func42, by kernel_rfl, by kernel_rfl⟩ (af ⟨Tryz.func43, by kernel_rfl, by kernel_rfl⟩ (af ⟨Tryz.func44, by kernel_rfl, by kernel_rfl⟩ (af ⟨Tryz.func45, by kernel_rfl, by kernel_rfl⟩ (af ⟨Tryz.func46, by kernel_rfl, by kernel_rfl⟩ (af ⟨Tryz.func47, by kernel_rfl, by kernel_rfl⟩ (af ⟨Tryz.func48, by kernel_rfl, by kernel_rfl⟩ (af ⟨Tryz.func49, by kernel_rfl, by kernel_rfl⟩ (af ⟨Tryz.func50, by kernel_rfl, by kernel_rfl⟩ (af ⟨Tryz.func51, by kernel_rfl, by kernel_rfl⟩ (af ⟨Tryz.func52, by kernel_rfl, by kernel_rfl⟩ (af ⟨Tryz.func53, by kernel_rfl, by kernel_rfl⟩ (af ⟨Tryz.func54, by kernel_rfl, by kernel_rfl⟩ (af ⟨Tryz.func55, by kernel_rfl, by kernel_rfl⟩ (af ⟨Tryz.func56, by kernel_rfl, by kernel_rfl⟩ (af ⟨Tryz.func57, by kernel_rfl, by kernel_rfl⟩ (af ⟨Tryz.func58, by kernel_rfl, by kernel_rfl⟩ (af ⟨Tryz.func59, by kernel_rfl, by kernel_rfl⟩ (af ⟨Tryz.func65, by kernel_rfl, by kernel_rfl⟩ (af ⟨Tryz.func66, by kernel_rfl, by kernel_rfl⟩ (af ⟨Tryz.func67, by kernel_rfl, by kernel_rfl⟩ (af ⟨Tryz.func68, by kernel_rfl, by kernel_rfl⟩ (af ⟨Tryz.func69, by kernel_rfl, by kernel_rfl⟩ (af ⟨Tryz.func70, by kernel_rfl, by kernel_rfl⟩ (af ⟨Tryz.func71, by kernel_rfl, by kernel_rfl⟩ (af ⟨Tryz.func72, by kernel_rfl, by kernel_rfl⟩ (af ⟨Tryz.func73, by kernel_rfl, by kernel_rfl⟩ (af ⟨Tryz.func74, by kernel_rfl, by kernel_rfl⟩ (af ⟨Tryz.func75, by kernel_rfl, by kernel_rfl⟩ (af ⟨Tryz.func76, by kernel_rfl, by kernel_rfl⟩ (af ⟨Tryz.func77, by kernel_rfl, by kernel_rfl⟩ (af ⟨Tryz.func78, by kernel_rfl, by kernel_rfl⟩ (af ⟨Tryz.func79, by kernel_rfl, by kernel_rfl⟩ (af ⟨Tryz.func80, by kernel_rfl, by kernel_rfl⟩ (af ⟨Tryz.func81, by kernel_rfl, by kernel_rfl⟩ (af ⟨Tryz.func82, by kernel_rfl, by kernel_rfl⟩ (af ⟨Tryz.func86, by kernel_rfl, by kernel_rfl⟩ (af ⟨Tryz.func87, by kernel_rfl, by kernel_rfl⟩ (af ⟨Tryz.func88, by kernel_rfl, by kernel_rfl⟩ (af ⟨Tryz.func89, by kernel_rfl, by kernel_rfl⟩ (af ⟨Tryz.func90, by kernel_rfl, by kernel_rfl⟩ (af ⟨Tryz.func91, by kernel_rfl, by kernel_rfl⟩ (af ⟨Tryz.func92, by kernel_rfl, by kernel_rfl⟩ (af ⟨Tryz.func93, by kernel_rfl, by kernel_rfl⟩ (af ⟨Tryz.func94, by kernel_rfl, by kernel_rfl⟩ (af ⟨Tryz.func95, by kernel_rfl, by kernel_rfl⟩ (af ⟨Tryz.func96, by kernel_rfl, by kernel_rfl⟩ (af ⟨Tryz.func97, by kernel_rfl, by kernel_rfl⟩ (af ⟨Tryz.func98, by kernel_rfl, by kernel_rfl⟩ (af ⟨Tryz.func99, by kernel_rfl, by kernel_rfl⟩ (af ⟨Tryz.func100, by kernel_rfl, by kernel_rfl⟩ (af ⟨Tryz.func101, by kernel_rfl, by kernel_rfl⟩ (af ⟨Tryz.func102, by kernel_rfl, by kernel_rfl⟩ (af ⟨Tryz.func103, by kernel_rfl, by kernel_rfl⟩ (af ⟨Tryz.func104, by kernel_rfl, by kernel_rfl⟩ (af ⟨Tryz.func105, by kernel_rfl, by kernel_rfl⟩ (af ⟨Tryz.func106, by kernel_rfl, by kernel_rfl⟩ (af ⟨Tryz.func107, by kernel_rfl, by kernel_rfl⟩ (af ⟨Tryz.func108, by kernel_rfl, by kernel_rfl⟩ (af ⟨Tryz.func109, by kernel_rfl, by kernel_rfl⟩ (af ⟨Tryz.func110, by kernel_rfl, by kernel_rfl⟩ (af ⟨Tryz.func111, by kernel_rfl, by kernel_rfl⟩ (af ⟨Tryz.func112, by kernel_rfl, by kernel_rfl⟩ (af ⟨Tryz.func113, by kernel_rfl, by kernel_rfl⟩ (af ⟨Tryz.func114, by kernel_rfl, by kernel_rfl⟩ (af ⟨Tryz.func115, by kernel_rfl, by kernel_rfl⟩ (af ⟨Tryz.func116, by kernel_rfl, by kernel_rfl⟩ (af ⟨Tryz.func118, by kernel_rfl, by kernel_rfl⟩ (af ⟨Tryz.func119, by kernel_rfl, by kernel_rfl⟩ (af ⟨Tryz.func120, by kernel_rfl, by kernel_rfl⟩ (af ⟨Tryz.func121, by kernel_rfl, by kernel_rfl⟩ (af ⟨Tryz.func122, by kernel_rfl, by kernel_rfl⟩ (af ⟨Tryz.func123, by kernel_rfl, by kernel_rfl⟩ (af ⟨Tryz.func124, by kernel_rfl, by kernel_rfl⟩ (af ⟨Tryz.func125, by kernel_rfl, by kernel_rfl⟩ (af ⟨Tryz.func126, by kernel_rfl, by kernel_rfl⟩ (af ⟨Tryz.func127, by kernel_rfl, by kernel_rfl⟩ (af ⟨Tryz.func128, by kernel_rfl, by kernel_rfl⟩ (af ⟨Tryz.func129, by kernel_rfl, by kernel_rfl⟩ (af ⟨Tryz.func130, by kernel_rfl, by kernel_rfl⟩ (af ⟨Tryz.func131, by kernel_rfl, by kernel_rfl⟩ (af ⟨Tryz.func132, by kernel_rfl, by kernel_rfl⟩ (af ⟨Tryz.func133, by kernel_rfl, by kernel_rfl⟩ (af ⟨Tryz.func134, by kernel_rfl, by kernel_rfl⟩ (af ⟨Tryz.func135, by kernel_rfl, by kernel_rfl⟩ (af ⟨Tryz.func138, by kernel_rfl, by kernel_rfl⟩ (af ⟨Tryz.func139, by kernel_rfl, by kernel_rfl⟩ (af ⟨Tryz.func140, by kernel_rfl, by kernel_rfl⟩ (af ⟨Tryz.func141, by kernel_rfl, by kernel_rfl⟩ (af ⟨Tryz.func142, by kernel_rfl, by kernel_rfl⟩ (af ⟨Tryz.func143, by kernel_rfl, by kernel_rfl⟩ (af ⟨Tryz.func144, by kernel_rfl, by kernel_rfl⟩ (af ⟨Tryz.func145, by kernel_rfl, by kernel_rfl⟩ (af ⟨Tryz.func147, by kernel_rfl, by kernel_rfl⟩ (af ⟨Tryz.func148, by kernel_rfl, by kernel_rfl⟩ (af ⟨Tryz.func149, by kernel_rfl, by kernel_rfl⟩ (af ⟨Tryz.func150, by kernel_rfl, by kernel_rfl⟩ (af ⟨Tryz.func151, by kernel_rfl, by kernel_rfl⟩ (af ⟨Tryz.func152, by kernel_rfl, by kernel_rfl⟩ (af ⟨Tryz.func153, by kernel_rfl, by kernel_rfl⟩ (af ⟨Tryz.func154, by kernel_rfl, by kernel_rfl⟩ (af ⟨Tryz.func155, by kernel_rfl, by kernel_rfl⟩ (af ⟨Tryz.func157, by kernel_rfl, by kernel_rfl⟩ (af ⟨Tryz.func158, by kernel_rfl, by kernel_rfl⟩ (af ⟨Tryz.func159, by kernel_rfl, by kernel_rfl⟩ (af ⟨Tryz.func160, by kernel_rfl, by kernel_rfl⟩ (af ⟨Tryz.func161, by kernel_rfl, by kernel_rfl⟩ (af ⟨Tryz.func162, by kernel_rfl, by kernel_rfl⟩ (af ⟨Tryz.func164, by kernel_rfl, by kernel_rfl⟩ (af ⟨Tryz.func165, by kernel_rfl, by kernel_rfl⟩ (af ⟨Tryz.func166, by kernel_rfl, by kernel_rfl⟩ (pG)))))))))))))))))))))))))))))))))))))))))))))))))))))))))))))))))))))))))))))))))))))))))))))))))))))))))))))))))))))))))))))))))))))))
noncomputable def fns:FuncId→Option Func:=fun f=>GK.lookup f
theorem HA:gG Tryz.prog fns:=fun f fn h=>Gl (f,fn) (fd h)
noncomputable def E:Env:=⟨tab,fns,hints,orc⟩
theorem fh {tab:Tab} {t:Nat} {a b:ByteArray} (h:a.size+b.size≤maxStr):r8 tab .add t (.string a) (.string b)=some (.string (a++b)):=by
 show (if a.size+b.size≤maxStr then some (Value.string (a++b)) else none)=_
 rw [if_pos h]
theorem H7 {f:FuncId} {xs:List (Sl Unit Unit)} {x:Value} (h:Does E f xs [(false,[.v x])]) {w:World} (hB:jy.ok w []) {ad:List DSl} {vs:List Value} (he:ad.map Sl.er=xs) (hA:ArgsIn w ad vs) :
  Calls Tryz.prog f vs.toArray w fun e w'=>e = .returned x∧RowKit.Below w.heap.size w w':=Does.plain HQ HA HM h hB he hA
end Go.Proofs.YtgaiiephdjllkaaGreatDoor.Am
