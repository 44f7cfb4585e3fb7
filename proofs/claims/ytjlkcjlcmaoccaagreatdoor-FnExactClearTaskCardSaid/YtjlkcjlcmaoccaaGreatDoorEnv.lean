/- What the library's functions tell; the seat's types and functions. -/
import Derived.Test.YtjlkcjlcmaoccaaGreatDoorAmc
import Derived.Test.YtjlkcjlcmaoccaaGreatDoorShelf
import Derived.Lib.SplitLaws
import Derived.WalkKit
import Derived.Test.YtjlkcjlcmaoccaaGreatDoorProg
import Derived.KernelRfl
import Derived.RegionTactic
import Derived.ChangeAlike
import Derived.BigRegion
namespace Go.Proofs.YtjlkcjlcmaoccaaGreatDoor.Am
open Go
set_option linter.unusedVariables false
set_option linter.unusedSimpArgs false
section
open Go.Proofs
set_option maxRecDepth 100000
def NH (w : World) : Prop := (∃ m, w.cell? ⟨0, 0, none⟩ = some (.int .i64 m)) ∧ Lib.TabIs Tryz.prog w "internal/strconv.uint64pow10" .u64 Lib.pow10Tab
theorem Gy {w w':World}{b:Nat}(h:w'.heap[b]?=w.heap[b]?)(o:Nat):w'.cell? ⟨b,o,none⟩=w.cell? ⟨b,o,none⟩:=by unfold World.cell?;simp only[h]
theorem Mi {P:Program}{name:String}{g:Nat}(h:P.globalNamed name=some g):g<P.globals.size:=by
 unfold Program.globalNamed at h;split at h
 ·rename_i b a;cases h;have:g∈(List.range P.globals.size).filter fun g=>(P.globals[g]?).any (·.name==name):=by rw[a];exact PN g
  exact P1.1 (QO.1 this).1
 ·cases h
theorem JW {P:Program}{w w':World}(h:∀b,b<P.globals.size→w'.heap[b]?=w.heap[b]?)(name:String):w'.var? P name=w.var? P name:=by
 unfold World.var?;cases q:P.globalNamed name with
 |none=>rfl
 |some g =>have a:g<P.globals.size:=Mi q;simp only[O5,h g a]
noncomputable def lw:Base:=⟨Tryz.prog.globals.size,NH,fun {w w'} h b=>by obtain⟨⟨m,c⟩,a⟩:=b;have d:(0:Nat)<Tryz.prog.globals.size:=QN (by kernel_rfl);refine⟨⟨m,by rw[Gy (h 0 d)];exact c⟩,?_⟩;unfold Lib.TabIs at a ⊢;rw[JW h];exact a⟩
theorem rV {f:FuncId}{xs:List Value}{rd:List Value→dB}{w:World}{X:List Nat}{ad:List DSl}{a:List Value}{us:List (Sl Unit Unit)}{rs:URes}(c:us=xs.map fun x => .one (.v x))(d:ad.map Sl.er=us)(b:ArgsOk w X ad a)
  {R:dB} (i:erR R=rs) (h:Calls Tryz.prog f xs.toArray w fun e w'=>∃v,e = .returned v∧GrewH X w w'∧RetOk w X w' [] [] R v):
  Calls Tryz.prog f a.toArray w fun e w'=>∃v od rd,e = .returned v∧GrewH X w w'∧erR (od++rd)=rs∧OutsOk w' ad a od∧RetOk w X w' (ad.flatMap cA) od rd v:=by
 subst c;obtain⟨j,k,l⟩:=x7 d b;have m:=b.1;subst j;refine h.mono ?_;rintro e w' ⟨v,rfl,g,n⟩;exact⟨v,[],R,rfl,g,i,OutsOk.nil' m l,by rw[k];exact n⟩
theorem GN (X:List Nat)(w:World)(n:Nat):GrewH X w (w.drewN n):=⟨rfl,rfl,rfl,PT _,fun b h _=>rfl⟩
def As:List (Sl Unit Unit)→Option URes|[.one (.v (.string s)),.one (.v (.string a))]=>if s.size<4294967281∧1≤a.size then some [(false,[.s .own () 1 ((Lib.splitB a 0 (Lib.countB s a) s).map etS)])]else none|_=>none
def IA:List (Sl Unit Unit)→Option URes|[.one (.v (.string s)),.one (.v (.string a))]=>if s.size<4294967281 then some [(false,[.v (.string ⟨(Lib.cut s.data.toList a.data.toList).1.toArray⟩)]),(false,[.v (.string ⟨(Lib.cut s.data.toList a.data.toList).2.1.toArray⟩)]),(false,[.v (.bool (Lib.cut s.data.toList a.data.toList).2.2)])]else none|_=>none
def qb:List (Sl Unit Unit)→Option URes|[.one (.v (.string s)),.one (.v (.string p))]=>some [(false,[.v (.string ⟨(Lib.trimPrefix s.data.toList p.data.toList).toArray⟩)]),(false,[.v (.bool (Lib.hasPrefix s.data.toList p.data.toList))])]|_=>none
def DU:List (Sl Unit Unit)→Option URes|[.one (.v (.int .i64 n))]=>if -9223372036854775808≤n∧n≤9223372036854775807 then some [(false,[.v (.string ⟨(Lib.itoa n).toArray⟩)])]else none|_=>none
theorem Eo {us:List (Sl Unit Unit)}{rs:URes}(h:qb us=some rs)(w:World)(X:List Nat)(ad:List DSl)(a:List Value)(f:lw.ok w X)(c:ad.map Sl.er=us)(d:ArgsOk w X ad a):
  Calls Tryz.prog 131 a.toArray w fun e w'=>∃v od rd,e = .returned v∧GrewH X w w'∧erR (od++rd)=rs∧OutsOk w' ad a od∧RetOk w X w' (ad.flatMap cA) od rd v:=by
 unfold qb at h;split at h
 case h_2=>cases h
 rename_i s p;cases h;refine rV (xs:=[.string s,.string p]) (rd:=fun _=>[]) rfl c d (R:=[Value.string _,Value.bool _].map fun x=>(false,[.v x])) rfl ?_;refine(Tryz.strings_CutPrefix s p w).mono ?_;rintro e w' ⟨rfl,rfl⟩;exact⟨_,rfl,(Grew.refl w').x X,RetOk.tuple (fun x b=>by simp at b;rcases b with rfl|rfl<;>rfl) (by simp)⟩
theorem Ni {us:List (Sl Unit Unit)}{rs:URes}(h:IA us=some rs)(w:World)(X:List Nat)(ad:List DSl)(a:List Value)(c:lw.ok w X)(d:ad.map Sl.er=us)(f:ArgsOk w X ad a):
  Calls Tryz.prog 133 a.toArray w fun e w'=>∃v od rd,e = .returned v∧GrewH X w w'∧erR (od++rd)=rs∧OutsOk w' ad a od∧RetOk w X w' (ad.flatMap cA) od rd v:=by
 unfold IA at h;split at h
 case h_2=>cases h
 rename_i s p;split at h
 case isFalse=>cases h
 rename_i hs;cases h;obtain⟨_,_,⟨m,g⟩,_⟩:=c;refine rV (xs:=[.string s,.string p]) (rd:=fun _=>[]) rfl d f (R:=[Value.string _,Value.string _,Value.bool _].map fun x=>(false,[.v x])) rfl ?_;refine(Tryz.strings_Cut s p m w hs g).mono ?_;rintro e w' ⟨rfl,n,rfl⟩;exact⟨_,rfl,GN X w n,RetOk.tuple (fun x b=>by simp at b;rcases b with rfl|rfl|rfl<;>rfl) (by simp)⟩
theorem MV {us:List (Sl Unit Unit)}{rs:URes}(h:DU us=some rs)(w:World)(X:List Nat)(ad:List DSl)(a:List Value)(c:lw.ok w X)(d:ad.map Sl.er=us)(f:ArgsOk w X ad a):
  Calls Tryz.prog 125 a.toArray w fun e w'=>∃v od rd,e = .returned v∧GrewH X w w'∧erR (od++rd)=rs∧OutsOk w' ad a od∧RetOk w X w' (ad.flatMap cA) od rd v:=by
 unfold DU at h;split at h
 case h_2=>cases h
 rename_i n;split at h
 case isFalse=>cases h
 rename_i hs;cases h;obtain⟨_,_,_,g⟩:=c;refine rV (xs:=[.int .i64 n]) (rd:=fun _=>[]) rfl d f (R:=[(false,[.v (.string ⟨(Lib.itoa n).toArray⟩)])]) rfl ?_;refine(Tryz.strconv_Itoa n hs.1 hs.2 w g).mono ?_;rintro e w' ⟨rfl,k,os,rfl⟩;refine⟨_,rfl,⟨rfl,rfl,rfl,by show _≤(w.heap++os).size;simp,fun b hb _ => ?_⟩,RetOk.plain rfl⟩;show(w.heap++os)[b]?=_;rw[QR hb]
theorem Mn {us:List (Sl Unit Unit)}{rs:URes}(h:As us=some rs)(w:World)(X:List Nat)(ad:List DSl)(c:List Value)(d:lw.ok w X)(f:ad.map Sl.er=us)(g:ArgsOk w X ad c):
  Calls Tryz.prog 120 c.toArray w fun e w'=>∃v od rd,e = .returned v∧GrewH X w w'∧erR (od++rd)=rs∧OutsOk w' ad c od∧RetOk w X w' (ad.flatMap cA) od rd v:=by
 unfold As at h;split at h
 case h_2=>cases h
 rename_i s a;split at h
 case isFalse=>cases h
 rename_i hs;cases h;obtain⟨_,_,⟨m,i⟩,_⟩:=d;have b:(Lib.splitB a 0 (Lib.countB s a) s).length=Lib.countB s a+1:=Lib.splitB_all a hs.2 0 _ s rfl;refine rV (xs:=[.string s,.string a]) (rd:=fun _=>[]) rfl f g (R:=[(false,[.s .own ⟨w.heap.size,0,Lib.countB s a+1,false,none⟩ 1 (bd Value.string (Lib.splitB a 0 (Lib.countB s a) s))])]) (by simp[erR,erL,aB,xu,etS]) ?_;refine(Tryz.strings_Split s a m w hs.1 i hs.2).mono ?_;rintro e w' ⟨rfl,rfl⟩;refine⟨_,rfl,(Grew.alloc w _).x X,?_⟩;have hb:(w.alloc (.cells ((Lib.splitB a 0 (Lib.countB s a) s).map Value.string).toArray 9)).heap[w.heap.size]?=some (.cells ((Lib.splitB a 0 (Lib.countB s a) s).map Value.string).toArray 9):=by show(w.heap.push _)[w.heap.size]?=_;simp
 have:=RetOk.freshRow (w:=w) (X:=X) (l:=Lib.splitB a 0 (Lib.countB s a) s) (cap:=Lib.countB s a+1) Value.string (fun _=>rfl) hb (fun j x k=>by simp[k]) (by omega) (by simp[b]) (fun q _ h=>by omega) (.inl (PT _))
 rwa [b]at this
theorem IY {w:World}{k:Kd}{d:Dec}{l:List ByteArray}(h:Holds w (.s k d 1 (bd Value.string l)))(g:l≠[]):d.addr=some ⟨d.b,d.o,none⟩∧d.b<w.heap.size∧l.length≤d.cap∧∀(j:Nat) x,l[j]?=some x→w.cell? ⟨d.b,d.o+j,none⟩=some (.string x):=by
 have i:0<l.length:=RM.2 g;generalize m:bd Value.string l=rows at *;have a:rows.length=l.length:=by rw[←m];simp[bd]
 cases h with
 |e=>simp at a;omega
 |s _ _ _ _ q1 q c e f n z A r B =>
  refine⟨by rw[Dec.addr_none q,q1];rfl,dv n,by omega,fun j x t => ?_⟩;have u:rows[j]?=some [.v (.string x)]:=by rw[←m];unfold bd;rw[Pp,t];rfl
  obtain⟨y,p,hv⟩:=r j _ 0 _ u rfl;have v:d.o+j*1+0=d.o+j:=by omega
  rw[v]at p;unfold World.cell?;simp only[n,Option.isSome_none,PB,P4];rw[p,show y=_ from hv.1]
def DV:List (Sl Unit Unit)→Option URes
 |[.one (.s .far () 1 rows),.one (.v (.string a))]=>(rp rows).bind fun xs=>if xs.length≤140737488355328∧(Lib.join (xs.map (·.data.toList)) a.data.toList).length≤140737488355328 then some [(false,[.v (.string ⟨(Lib.join (xs.map (·.data.toList)) a.data.toList).toArray⟩)])]else none
 |_=>none
theorem MW {us:List (Sl Unit Unit)}{rs:URes}(h:DV us=some rs)(w:World)(X:List Nat)(ad:List DSl)(t:List Value)(P:lw.ok w X)(i:ad.map Sl.er=us)(B:ArgsOk w X ad t):
  Calls Tryz.prog 111 t.toArray w fun e w'=>∃v od rd,e = .returned v∧GrewH X w w'∧erR (od++rd)=rs∧OutsOk w' ad t od∧RetOk w X w' (ad.flatMap cA) od rd v:=by
 unfold DV at h;split at h
 case h_2=>cases h
 rename_i rows f;rw[O7]at h;obtain⟨l,D,h⟩:=h;split at h
 case isFalse=>cases h
 rename_i hs;cases h
 match ad,i,B with
 |[a,b],i,B =>
  simp only[Pv,PO,QD,Rh]at i;obtain⟨d,C,rfl,H⟩:=xq i.1;have hb:=K2 i.2;subst hb;rw[←H]at D;have m:=Gh D;subst m;obtain⟨j,u,Q⟩:=B
  match t,j,u with
  |[y,z],j,u =>
   have A:=u 0 _ y rfl rfl;have F:y = .slice d.addr (bd Value.string l).length d.cap:=A.val [];have hz:z = .string f:=((u 1 _ z rfl rfl).val []).1;have n:(bd Value.string l).length=l.length:=by simp[bd]
   rw[n]at F;subst F;subst hz;have I:Holds w (.s .far d 1 (bd Value.string l)):=A.mem.1 _ (by simp[aj]);have k:∀(x:Value)(w':World),x.oneCell'=true→Grew w w'→∃v od rd,Ending.returned x = .returned v∧GrewH X w w'∧erR (od++rd)=[(false,[.v x])]∧OutsOk w' [.one (.s .far d 1 (bd Value.string l)),.one (.v (.string f))] [.slice d.addr l.length d.cap,.string f] od∧RetOk w X w' ([(.one (.s .far d 1 (bd Value.string l)):DSl),.one (.v (.string f))].flatMap cA) od rd v :=
    fun x w' J g=>⟨x,[],[(false,[.v x])],rfl,g.x X,rfl,OutsOk.nil' rfl (fun s hs=>by simp at hs;rcases hs with rfl|rfl<;>rfl),RetOk.plain J⟩
   by_cases p:l=[]
   ·subst p;refine(Tryz.strings_Join_none d.addr d.cap f w).mono ?_;rintro e w' ⟨rfl,rfl⟩;exact k _ _ rfl (Grew.refl _)
   ·obtain⟨G,K,L,M⟩:=IY I p;rw[G];rw[G]at k;refine(Tryz.strings_Join d.b d.o d.cap l f w M K hs.1 L hs.2).mono ?_;rintro e w' ⟨rfl,g1,N,g3,g4,O⟩;exact k _ _ rfl ⟨g1,N,g3,g4,O⟩
  |[],j,_=>cases j
  |[y],j,_=>simp at j
  |y::z::q::r,j,_=>simp at j
 |[],i,_=>simp at i
 |[a],i,_=>simp at i
 |a::b::c::r,i,_=>simp at i
def DZ:List (Sl Unit Unit)→Option URes|[.one (.s .own () 1 rows)]=>(lf rows).bind fun l=>if l.length<4611686018427387904 then some [(false,[.s .own () 1 ((l.mergeSort fun x y=>decide (x≤y)).map etI)])]else none|_=>none
theorem IX {w:World}(os:Array Obj):Grew w (Go.Sort.grow w os):=⟨rfl,rfl,rfl,by show _≤(w.heap++os).size;simp,fun b hb=>by show(w.heap++os)[b]?=_;rw[QR hb]⟩
theorem RetOk.unit {w w':World}{X:List Nat}{d:Dec}{rows:List (List DT)}(f:Holds w' (.s .own d 1 rows))(g:OwnT w' (.s .own d 1 rows))(hf:(T.s .own d 1 rows:DT).fine=true)(e:bl (.s .own d 1 rows)=[]∨bl (.s .own d 1 rows)=[d.b])(j:∀b∈bl (.s .own d 1 rows),(w.heap.size≤b∨b∈X)∧b<w'.heap.size):
  RetOk w X w' [] [(false,[.s .own d 1 rows])] [] (.tuple #[]) where
 val := .inr (.inl ⟨by decide, #[],rfl,rfl,fun i r v h=>by simp at h⟩)
 fine:=fun r a t c=>by rw[PF,Pe]at a;subst a;rw[Pe]at c;subst c;exact hf
 holds:=fun r a t c=>by rw[PF,Pe]at a;subst a;rw[Pe]at c;subst c;exact f
 own:=fun r a t c _=>by rw[PF,Pe]at a;subst a;rw[Pe]at c;subst c;exact g
 once:=fun b=>by
  have:bp ([(false,[(.s .own d 1 rows:DT)])]++[])=bl (.s .own d 1 rows):=by simp[bp,ownR,T.isOwn]
  rw[this];rcases e with h|h<;>rw[h]<;>simp[Qj]
  split<;>omega
 new:=fun b hb=>by
  have:bp ([(false,[(.s .own d 1 rows:DT)])]++[])=bl (.s .own d 1 rows):=by simp[bp,ownR,T.isOwn]
  rw[this]at hb;exact j b hb
theorem M8 {us:List (Sl Unit Unit)}{rs:URes}(h:DZ us=some rs)(w:World)(X:List Nat)(ad:List DSl)(s:List Value)(U:lw.ok w X)(f:ad.map Sl.er=us)(t:ArgsOk w X ad s):
  Calls Tryz.prog 52 s.toArray w fun e w'=>∃v od rd,e = .returned v∧GrewH X w w'∧erR (od++rd)=rs∧OutsOk w' ad s od∧RetOk w X w' (ad.flatMap cA) od rd v:=by
 unfold DZ at h;split at h
 case h_2=>cases h
 rename_i rows;rw[O7]at h;obtain⟨l,G,h⟩:=h;split at h
 case isFalse=>cases h
 rename_i hs;cases h
 match ad,f,t with
 |[a],f,t =>
  simp only[Pv,PO,QD,Rh]at f;obtain⟨d,u,rfl,P⟩:=xq f;rw[←P]at G;have p:=uz G;subst p;obtain⟨m,B,V⟩:=t
  match s,m,B with
  |[y],m,B =>
   have A:=B 0 _ y rfl rfl;have q:(bd (Value.int .i64) l).length=l.length:=by simp[bd]
   have H:y = .slice d.addr (bd (Value.int .i64) l).length d.cap:=A.val [];rw[q]at H;subst H;have C:Holds w (.s .own d 1 (bd (Value.int .i64) l)):=A.mem.1 _ (by simp[aj]);have D:OwnT w (.s .own d 1 (bd (Value.int .i64) l)):=A.mem.2.1 _ (by simp[rootsO]) rfl;have c:∀b∈bl (.s .own d 1 (bd (Value.int .i64) l)),b∈X∧b<w.heap.size:=fun b hb=>A.own b (by simpa[ownBl,ownR,T.isOwn]using hb)
   by_cases i:l=[]
   ·subst i;refine(Tryz.slices_Sort_int_none d.addr d.cap w).mono ?_;rintro e w' ⟨rfl,rfl⟩;refine⟨_,[(false,[.s .own d 1 []])],[],rfl,(Grew.refl _).x X,by simp[erR,erL,aB],⟨_,[],rfl,⟨⟨_,rfl,rfl⟩,rfl⟩,rfl⟩,RetOk.unit C D rfl ?_ fun b hb=>⟨.inr (c b hb).1,(c b hb).2⟩⟩;rw[cp];cases d.nil<;>simp
   ·obtain⟨Q,I,W,J,R⟩:=Bn (Value.int .i64) i C D;have j:∀l',bl (.s .own d 1 (bd (Value.int .i64) l'))=[d.b]:=fun l'=>Ef _ _ R _
    have K:d.b∈X:=(c d.b (by rw[j];simp)).1;rw[J];refine(Tryz.slices_Sort_int d.b d.o d.cap l w Q I hs).mono ?_;rintro e w' ⟨rfl,n,os,rfl⟩;have F:(l.mergeSort fun x y=>decide (x≤y)).length=l.length:=RC l;obtain⟨L,M,k⟩:=H6 (Value.int .i64) (fun _=>rfl) i C D n F (List.prefix_refl _);generalize Go.Sort.putRow (Value.int .i64) (Go.Sort.ahead w n) d.b d.o (l.mergeSort fun x y=>decide (x≤y)).toArray=N at L M k;have g:=IX (w:=N) os;have O:GrewH X w (Go.Sort.grow N os):=⟨by rw[g.os,k.os],by rw[g.tape,k.tape],by rw[g.output,k.output],P6 k.size g.size,fun b hb S=>by rw[g.same b (PP hb k.size),k.same b hb (by simp;rintro rfl;exact S K)]⟩
    refine⟨_,[(false,[.s .own d 1 (bd (Value.int .i64) (l.mergeSort fun x y=>decide (x≤y)))])],[],rfl,O,?_,⟨_,[],rfl,⟨⟨_,rfl,?_⟩,rfl⟩,rfl⟩,RetOk.unit (L.frame fun b _ hb=>g.same b hb) (M.frame fun b _ hb=>g.same b hb) rfl (.inr (j _)) fun b hb => ?_⟩
    ·simp[erR,erL,aB,xu,etI]
    ·show _=Value.slice d.addr _ _;rw[J];simp[bd]
    ·rw[j,Pe]at hb;subst hb;exact⟨.inr K,PP I O.size⟩
  |[],m,_=>cases m
  |y::z::r,m,_=>simp at m
 |[],f,_=>simp at f
 |a::b::r,f,_=>simp at f
theorem RetOk.used {w w':World}{X:List Nat}{d:Dec}{rows:List (List DT)}{v:Value}(hv:VT (.s .own d 1 rows) v)(f:Holds w' (.s .own d 1 rows))(g:OwnT w' (.s .own d 1 rows))(hf:(T.s .own d 1 rows:DT).fine=true)(e:bl (.s .own d 1 rows)=[]∨bl (.s .own d 1 rows)=[d.b])(i:∀b∈bl (.s .own d 1 rows),(w.heap.size≤b∨b∈X)∧b<w'.heap.size):
  RetOk w X w' [] [(false,[.any])] [(false,[.s .own d 1 rows])] v where
 val := .inl ⟨_,rfl,by simp only[VPart,PB,P4];exact⟨_,rfl,hv⟩⟩
 fine:=fun r c t a=>by
  simp only[QF,PD,QS,Rz]at c;rcases c with rfl|rfl
  ·rw[Pe]at a;subst a;rfl
  ·rw[Pe]at a;subst a;exact hf
 holds:=fun r c t a=>by
  simp only[QF,PD,QS,Rz]at c;rcases c with rfl|rfl
  ·rw[Pe]at a;subst a;exact .any
  ·rw[Pe]at a;subst a;exact f
 own:=fun r c t a j=>by
  simp only[QF,PD,QS,Rz]at c;rcases c with rfl|rfl
  ·rw[Pe]at a;subst a;cases j
  ·rw[Pe]at a;subst a;exact g
 once:=fun b=>by
  have:bp ([(false,[(.any:DT)])]++[(false,[(.s .own d 1 rows:DT)])])=bl (.s .own d 1 rows):=by simp[bp,ownR,T.isOwn]
  rw[this];rcases e with h|h<;>rw[h]<;>simp[Qj]
  split<;>omega
 new:=fun b hb=>by
  have:bp ([(false,[(.any:DT)])]++[(false,[(.s .own d 1 rows:DT)])])=bl (.s .own d 1 rows):=by simp[bp,ownR,T.isOwn]
  rw[this]at hb;exact i b hb
def ue:List (Sl Unit Unit)→Option URes|[.one (.s .own () 1 rows)]=>(lf rows).bind fun l=>if l.length≤9223372036854775807 then some [(false,[.any]),(false,[.s .own () 1 ((Lib.compact l).map etI)])]else none|_=>none
theorem LK (a:Option Addr)(n c:Nat)(h:n≤c)(w:World):Calls Tryz.prog 123 #[.slice a n c] w fun e w'=>e = .returned (.slice a n n)∧w'=w:=by
 go_enter Tryz.func123,Tryz.ntmps123
 go_wp2
 all_goals (go_ret;exact⟨rfl,rfl⟩)
theorem Gz (l:List Int):(Lib.compact l).length≤l.length:=Lib.compact_length_le l
theorem Iz {us:List (Sl Unit Unit)}{rs:URes}(h:ue us=some rs)(w:World)(X:List Nat)(ad:List DSl)(q:List Value)(S:lw.ok w X)(f:ad.map Sl.er=us)(s:ArgsOk w X ad q):
  Calls Tryz.prog 124 q.toArray w fun e w'=>∃v od rd,e = .returned v∧GrewH X w w'∧erR (od++rd)=rs∧OutsOk w' ad q od∧RetOk w X w' (ad.flatMap cA) od rd v:=by
 unfold ue at h;split at h
 case h_2=>cases h
 rename_i rows;rw[O7]at h;obtain⟨l,D,h⟩:=h;split at h
 case isFalse=>cases h
 rename_i hs;cases h
 match ad,f,s with
 |[a],f,s =>
  simp only[Pv,PO,QD,Rh]at f;obtain⟨d,t,rfl,L⟩:=xq f;rw[←L]at D;have m:=uz D;subst m;obtain⟨j,u,U⟩:=s
  match q,j,u with
  |[y],j,u =>
   have A:=u 0 _ y rfl rfl;have p:(bd (Value.int .i64) l).length=l.length:=by simp[bd]
   have F:y = .slice d.addr (bd (Value.int .i64) l).length d.cap:=A.val [];rw[p]at F;subst F;have x:Holds w (.s .own d 1 (bd (Value.int .i64) l)):=A.mem.1 _ (by simp[aj]);have B:OwnT w (.s .own d 1 (bd (Value.int .i64) l)):=A.mem.2.1 _ (by simp[rootsO]) rfl;have c:∀b∈bl (.s .own d 1 (bd (Value.int .i64) l)),b∈X∧b<w.heap.size:=fun b hb=>A.own b (by simpa[ownBl,ownR,T.isOwn]using hb)
   by_cases g:l=[]
   ·subst g;refine(Tryz.slices_Compact_int_empty d.addr d.cap w).mono ?_;rintro e w' ⟨rfl,rfl⟩;refine⟨_,[(false,[.any])],[(false,[.s .own d 1 []])],rfl,(Grew.refl _).x X,by simp[erR,erL,aB,Lib.compact,Lib.compactUpTo];rfl,⟨_,[],rfl,⟨⟨_,rfl,rfl⟩,rfl⟩,rfl⟩,RetOk.used rfl x B rfl ?_ fun b hb=>⟨.inr (c b hb).1,(c b hb).2⟩⟩;rw[cp];cases d.nil<;>simp
   ·obtain⟨M,N,O,G,P⟩:=Bn (Value.int .i64) g x B;have i:∀l',bl (.s .own d 1 (bd (Value.int .i64) l'))=[d.b]:=fun l'=>Ef _ _ P _
    have H:d.b∈X:=(c d.b (by rw[i];simp)).1;rw[G];refine(Tryz.slices_Compact_int d.b d.o d.cap l w M hs O).mono ?_;rintro e w' ⟨rfl,n,rfl⟩;have C:(Lib.compact l++List.replicate (l.length-(Lib.compact l).length) 0).length=l.length:=by have:=Gz l;simp;omega
    obtain⟨I,J,k⟩:=H6 (Value.int .i64) (fun _=>rfl) g x B n C (l2:=Lib.compact l) (List.prefix_append _ _);generalize Go.Sort.putRow (Value.int .i64) (Go.Sort.ahead w n) d.b d.o (Lib.compact l++List.replicate (l.length-(Lib.compact l).length) 0).toArray=Q at I J k;have K:GrewH X w Q:=⟨k.os,k.tape,k.output,k.size,fun b hb R=>k.same b hb (by simp;rintro rfl;exact R H)⟩
    refine⟨_,[(false,[.any])],[(false,[.s .own d 1 (bd (Value.int .i64) (Lib.compact l))])],rfl,K,?_,⟨_,[],rfl,⟨⟨_,rfl,rfl⟩,rfl⟩,rfl⟩,RetOk.used ?_ I J rfl (.inr (i _)) fun b hb => ?_⟩
    ·simp[erR,erL,aB,xu,etI];rfl
    ·show _=Value.slice d.addr _ _;rw[G];simp[bd]
    ·rw[i,Pe]at hb;subst hb;exact⟨.inr H,PP N K.size⟩
  |[],j,_=>cases j
  |y::z::r,j,_=>simp at j
 |[],f,_=>simp at f
 |a::b::r,f,_=>simp at f
def DQ:List (Sl Unit Unit)→Option URes|[.one (.s .own () 1 rows)]=>(lf rows).bind fun l=>some [(false,[.any]),(false,[.s .own () 1 (l.map etI)])]|_=>none
theorem LJ {w:World}{d:Dec}{l:List Int}(i:Holds w (.s .own d 1 (bd (Value.int .i64) l)))(j:OwnT w (.s .own d 1 (bd (Value.int .i64) l))):l.length≤d.cap∧Holds w (.s .own { d with cap:=l.length } 1 (bd (Value.int .i64) l))∧OwnT w (.s .own { d with cap:=l.length } 1 (bd (Value.int .i64) l)):=by
 generalize k:bd (Value.int .i64) l=rows at *;have a:rows.length=l.length:=by rw[←k];simp[bd]
 cases j with
 |nil _ _ b g h =>
  have m:l.length=0:=by rw[←a];rfl
  exact⟨by omega,.e _ _ _,.nil _ _ b g m⟩
 |s _ _ _ b g n o lo hi h C p q r =>
  refine⟨by omega,?_,.s _ _ _ b g n o lo hi h (by simp;omega) (by simp at p ⊢;omega) (fun x t u=>q x t (by simp at u ⊢;omega)) r⟩;cases i with
  |e=>exact .e _ _ _
  |s _ _ _ _ q1 v c e f y D z A B=>exact .s _ _ _ _ q1 v c e f y (by simp;omega) z A B
theorem ML {us:List (Sl Unit Unit)}{rs:URes}(h:DQ us=some rs)(w:World)(X:List Nat)(ad:List DSl)(k:List Value)(F:lw.ok w X)(c:ad.map Sl.er=us)(m:ArgsOk w X ad k):
  Calls Tryz.prog 123 k.toArray w fun e w'=>∃v od rd,e = .returned v∧GrewH X w w'∧erR (od++rd)=rs∧OutsOk w' ad k od∧RetOk w X w' (ad.flatMap cA) od rd v:=by
 unfold DQ at h;split at h
 case h_2=>cases h
 rename_i rows;rw[O7]at h;obtain⟨l,q,h⟩:=h;cases h
 match ad,c,m with
 |[a],c,m =>
  simp only[Pv,PO,QD,Rh]at c;obtain⟨d,n,rfl,t⟩:=xq c;rw[←t]at q;have j:=uz q;subst j;obtain⟨i,o,G⟩:=m
  match k,i,o with
  |[y],i,o =>
   have A:=o 0 _ y rfl rfl;have f:(bd (Value.int .i64) l).length=l.length:=by simp[bd]
   have s:y = .slice d.addr (bd (Value.int .i64) l).length d.cap:=A.val [];rw[f]at s;subst s;have u:Holds w (.s .own d 1 (bd (Value.int .i64) l)):=A.mem.1 _ (by simp[aj]);have x:OwnT w (.s .own d 1 (bd (Value.int .i64) l)):=A.mem.2.1 _ (by simp[rootsO]) rfl;have g:∀b∈bl (.s .own d 1 (bd (Value.int .i64) l)),b∈X∧b<w.heap.size:=fun b hb=>A.own b (by simpa[ownBl,ownR,T.isOwn]using hb)
   obtain⟨B,C,D⟩:=LJ u x;have p:bl (.s .own { d with cap:=l.length } 1 (bd (Value.int .i64) l))=bl (.s .own d 1 (bd (Value.int .i64) l)):=by rw[cp,cp]
   refine(LK d.addr l.length d.cap B w).mono ?_;rintro e w' ⟨rfl,rfl⟩;refine⟨_,[(false,[.any])],[(false,[.s .own { d with cap:=l.length } 1 (bd (Value.int .i64) l)])],rfl,(Grew.refl _).x X,?_,⟨_,[],rfl,⟨⟨_,rfl,rfl⟩,rfl⟩,rfl⟩,RetOk.used ?_ C D rfl ?_ fun b hb => ?_⟩
   ·simp[erR,erL,aB,xu,etI];rfl
   ·show _=Value.slice _ _ _;rw[f];rfl
   ·rw[cp,CA];cases d.nil<;>simp
   ·rw[p]at hb;exact⟨.inr (g b hb).1,(g b hb).2⟩
  |[],i,_=>cases i
  |y::z::r,i,_=>simp at i
 |[],c,_=>simp at c
 |a::b::r,c,_=>simp at c
def orc (_:Sem1):Sem1:=fun f us=>match f with
 | 111=>DV us
 | 120=>As us
 | 52=>DZ us
 | 123=>DQ us
 | 124=>ue us
 | 125=>DU us
 | 131=>qb us
 | 133=>IA us
 |_=>none
theorem Nx:∀C,CallsOk Tryz.prog lw C→CallsOk Tryz.prog lw (orc C):=by
 intro C _ f us rs h w X ad a b c d;unfold orc at h;split at h
 ·exact MW h w X ad a b c d
 ·exact Mn h w X ad a b c d
 ·exact M8 h w X ad a b c d
 ·exact ML h w X ad a b c d
 ·exact Iz h w X ad a b c d
 ·exact MV h w X ad a b c d
 ·exact Eo h w X ad a b c d
 ·exact Ni h w X ad a b c d
 ·cases h
end
section
open Go.Proofs
set_option maxRecDepth 100000
set_option maxHeartbeats 4000000 in
theorem It:D6 Tryz.prog 106 [0,1,2,3,4]:=fun b w=>by
 go_enter Tryz.func106,Tryz.ntmps106
 go_wp2
 go_region
 go_wp2
 refine bodyPost_ret (v := .agg #[.pointer (some ⟨b.1,b.2,none⟩),.pointer (some ⟨b.1,b.2+1,none⟩),.pointer (some ⟨b.1,b.2+2,none⟩),.pointer (some ⟨b.1,b.2+3,none⟩),.pointer (some ⟨b.1,b.2+4,none⟩)]) (by simp[results,Tryz.results106,go_sem]) rfl ⟨rfl,(Grew.alloc _ _).trans (Grew.drew _)⟩
end
section
open Go.Proofs
set_option maxRecDepth 100000
def tab:Tab where
 ts:=[(2,⟨1,8,[tI (0:Int)],.int .i64⟩),
  (3,⟨1,8,[tI (0:Int)],.int .i64⟩),
  (4,⟨1,1,[tB false],.bool⟩),
  (5,⟨1,1,[tY (0:Int)],.int .u8⟩),
  (6,⟨1,1,[tY (0:Int)],.int .u8⟩),
  (7,⟨4,24,[tI (0:Int),tI (0:Int),tB false,tY (0:Int)],.struct [0,1,2,3]⟩),
  (8,⟨4,24,[tI (0:Int),tI (0:Int),tB false,tY (0:Int)],.struct [0,1,2,3]⟩),
  (9,⟨1,16,[tS ByteArray.empty],.str⟩),
  (10,⟨1,16,[tS ByteArray.empty],.str⟩),
  (11,⟨1,16,[tS ByteArray.empty],.str⟩),
  (12,⟨1,8,[.v (.int .u64 0)],.int .u64⟩),
  (13,⟨2,24,[tS ByteArray.empty,.v (.int .u64 0)],.struct [0,1]⟩),
  (14,⟨2,24,[tS ByteArray.empty,.v (.int .u64 0)],.struct [0,1]⟩),
  (21,⟨1,4,[.v (.int .i32 0)],.int .i32⟩),
  (22,⟨1,24,[.s .own () 5 []],.slice 75⟩),
  (23,⟨6,80,[tS ByteArray.empty,tS ByteArray.empty,tI (0:Int),tI (0:Int),tB false,.s .own () 5 []],.struct [0,1,2,3,4,5]⟩),
  (24,⟨6,80,[tS ByteArray.empty,tS ByteArray.empty,tI (0:Int),tI (0:Int),tB false,.s .own () 5 []],.struct [0,1,2,3,4,5]⟩),
  (25,⟨2,16,[tI (0:Int),tI (0:Int)],.struct [0,1]⟩),
  (26,⟨2,16,[tI (0:Int),tI (0:Int)],.struct [0,1]⟩),
  (27,⟨1,24,[.s .own () 4 []],.slice 82⟩),
  (28,⟨5,64,[tS ByteArray.empty,tI (0:Int),tI (0:Int),tI (0:Int),.s .own () 4 []],.struct [0,1,3,4]⟩),
  (29,⟨5,64,[tS ByteArray.empty,tI (0:Int),tI (0:Int),tI (0:Int),.s .own () 4 []],.struct [0,1,3,4]⟩),
  (32,⟨2,16,[tI (0:Int),tI (0:Int)],.struct [0,1]⟩),
  (33,⟨1,24,[.s .own () 4 []],.slice 58⟩),
  (34,⟨5,64,[tS ByteArray.empty,tI (0:Int),tI (0:Int),tI (0:Int),.s .own () 4 []],.struct [0,1,3,4]⟩),
  (35,⟨5,64,[tS ByteArray.empty,tI (0:Int),tI (0:Int),tI (0:Int),.s .own () 4 []],.struct [0,1,3,4]⟩),
  (38,⟨1,24,[.s .own () 5 []],.slice 79⟩),
  (39,⟨6,80,[tS ByteArray.empty,tS ByteArray.empty,tI (0:Int),tI (0:Int),tB false,.s .own () 5 []],.struct [0,1,2,3,4,5]⟩),
  (40,⟨6,80,[tS ByteArray.empty,tS ByteArray.empty,tI (0:Int),tI (0:Int),tB false,.s .own () 5 []],.struct [0,1,2,3,4,5]⟩),
  (54,⟨1,24,[.s .own () 1 []],.slice 3⟩),
  (57,⟨4,32,[tI (0:Int),tI (0:Int),tI (0:Int),tI (0:Int)],.struct [0,1,2,3]⟩),
  (58,⟨4,32,[tI (0:Int),tI (0:Int),tI (0:Int),tI (0:Int)],.struct [0,1,2,3]⟩),
  (73,⟨1,24,[.s .own () 1 []],.slice 9⟩),
  (74,⟨5,72,[tS ByteArray.empty,tS ByteArray.empty,tI (0:Int),tB false,.s .own () 1 []],.struct [0,1,2,3,4]⟩),
  (75,⟨5,72,[tS ByteArray.empty,tS ByteArray.empty,tI (0:Int),tB false,.s .own () 1 []],.struct [0,1,2,3,4]⟩),
  (78,⟨1,24,[.s .own () 1 []],.slice 4⟩),
  (79,⟨5,72,[tS ByteArray.empty,tS ByteArray.empty,tI (0:Int),tB false,.s .own () 1 []],.struct [0,1,2,3,4]⟩),
  (82,⟨4,32,[tI (0:Int),tI (0:Int),tI (0:Int),tI (0:Int)],.struct [0,1,2,3]⟩),
  (92,⟨5,120,[.s .own () 1 [],.s .own () 1 [],.s .own () 1 [],.s .own () 1 [],.s .own () 1 []],.struct [0,1,2,3,4]⟩),
  (93,⟨5,120,[.s .own () 1 [],.s .own () 1 [],.s .own () 1 [],.s .own () 1 [],.s .own () 1 []],.struct [0,1,2,3,4]⟩),
  (111,⟨1,8,[.v (.int .u64 0)],.int .u64⟩),
  (113,⟨1,24,[.s .own () 1 []],.slice 5⟩),
  (123,⟨1,8,[tI (0:Int)],.int .i64⟩),
  (132,⟨1,4,[.v (.int .u32 0)],.int .u32⟩),
  (134,⟨1,8,[.v (.int .u64 0)],.int .u64⟩),
  (143,⟨1,8,[.v (.int .u64 0)],.int .u64⟩),
  (192,⟨2,2,[tY (0:Int),tY (0:Int)],.struct [0,1]⟩),
  (193,⟨2,2,[tY (0:Int),tY (0:Int)],.struct [0,1]⟩),
  (205,⟨1,1,[tY (0:Int)],.int .u8⟩),
  (206,⟨1,1,[tY (0:Int)],.int .u8⟩),
  (208,⟨1,4,[.v (.int .i32 0)],.int .i32⟩),
  (209,⟨1,4,[.v (.int .i32 0)],.int .i32⟩)]
 eqs:=[(25,[(0,3),(1,3)]),
  (26,[(0,3),(1,3)]),
  (32,[(0,3),(1,3)]),
  (57,[(0,3),(1,3),(2,3),(3,3)]),
  (58,[(0,3),(1,3),(2,3),(3,3)]),
  (82,[(0,3),(1,3),(2,3),(3,3)]),
  (192,[(0,5),(1,5)]),
  (193,[(0,5),(1,5)])]
 pls:=[(7,[(0,1),(1,1),(2,1),(3,1)]),
  (8,[(0,1),(1,1),(2,1),(3,1)]),
  (13,[(0,1),(1,1)]),
  (14,[(0,1),(1,1)]),
  (23,[(0,1),(1,1),(2,1),(3,1),(4,1),(5,1)]),
  (24,[(0,1),(1,1),(2,1),(3,1),(4,1),(5,1)]),
  (25,[(0,1),(1,1)]),
  (26,[(0,1),(1,1)]),
  (28,[(0,1),(1,2),(3,1),(4,1)]),
  (29,[(0,1),(1,2),(3,1),(4,1)]),
  (32,[(0,1),(1,1)]),
  (34,[(0,1),(1,2),(3,1),(4,1)]),
  (35,[(0,1),(1,2),(3,1),(4,1)]),
  (39,[(0,1),(1,1),(2,1),(3,1),(4,1),(5,1)]),
  (40,[(0,1),(1,1),(2,1),(3,1),(4,1),(5,1)]),
  (57,[(0,1),(1,1),(2,1),(3,1)]),
  (58,[(0,1),(1,1),(2,1),(3,1)]),
  (74,[(0,1),(1,1),(2,1),(3,1),(4,1)]),
  (75,[(0,1),(1,1),(2,1),(3,1),(4,1)]),
  (79,[(0,1),(1,1),(2,1),(3,1),(4,1)]),
  (82,[(0,1),(1,1),(2,1),(3,1)]),
  (92,[(0,1),(1,1),(2,1),(3,1),(4,1)]),
  (93,[(0,1),(1,1),(2,1),(3,1),(4,1)]),
  (192,[(0,1),(1,1)]),
  (193,[(0,1),(1,1)])]
 io:=[(12,0),(13,0),(32,0),(36,0),(37,0),(52,0),(57,0),(123,0),(124,0)]
 gv:=[123,124]
 addr:=[(106,[0,1,2,3,4])]
 ars:=[(139,5)]
 pw:=[(32,[5,0]),(75,[6,0,0]),(106,[5]),(126,[2,0]),(127,[2,0]),(128,[2]),(136,[2,0])]
noncomputable def My:List (Nat×Func):=[(3,Tryz.f3),(4,Tryz.f4),(5,Tryz.f5),(6,Tryz.f6),(7,Tryz.f7),(8,Tryz.f8),(9,Tryz.f9),(10,Tryz.f10),(11,Tryz.f11),(12,Tryz.f12),(13,Tryz.f13),(14,Tryz.f14),(15,Tryz.f15),(16,Tryz.f16),(17,Tryz.f17),(18,Tryz.f18),(19,Tryz.f19),(20,Tryz.f20),(21,Tryz.f21),(22,Tryz.f22),(23,Tryz.f23),(24,Tryz.f24),(25,Tryz.f25),(26,Tryz.f26),(27,Tryz.f27),(28,Tryz.f28),(29,Tryz.f29),(30,Tryz.f30),(31,Tryz.f31),(32,Tryz.f32),(33,Tryz.f33),(34,Tryz.f34),(35,Tryz.f35),(36,Tryz.f36),(37,Tryz.f37),(38,Tryz.f38),(39,Tryz.f39),(40,Tryz.f40),(41,Tryz.f41),(42,Tryz.f42),(43,Tryz.f43),(44,Tryz.f44),(45,Tryz.f45),(46,Tryz.f46),(47,Tryz.f47),(48,Tryz.f48),(49,Tryz.f49),(50,Tryz.f50),(51,Tryz.f51),(52,Tryz.f52),(53,Tryz.f53),(54,Tryz.f54),(55,Tryz.f55),(56,Tryz.f56),(57,Tryz.f57),(58,Tryz.f58),(59,Tryz.f59),(60,Tryz.f60),(61,Tryz.f61),(62,Tryz.f62),(63,Tryz.f63),(64,Tryz.f64),(65,Tryz.f65),(66,Tryz.f66),(67,Tryz.f67),(68,Tryz.f68),(69,Tryz.f69),(70,Tryz.f70),(71,Tryz.f71),(72,Tryz.f72),(73,Tryz.f73),(74,Tryz.f74),(75,Tryz.f75),(76,Tryz.f76),(77,Tryz.f77),(78,Tryz.f78),(79,Tryz.f79),(80,Tryz.f80),(81,Tryz.f81),(82,Tryz.f82),(83,Tryz.f83),(84,Tryz.f84),(85,Tryz.f85),(86,Tryz.f86),(87,Tryz.f87),(88,Tryz.f88),(89,Tryz.f89),(90,Tryz.f90),(91,Tryz.f91),(92,Tryz.f92),(93,Tryz.f93),(94,Tryz.f94),(95,Tryz.f95),(96,Tryz.f96),(97,Tryz.f97),(98,Tryz.f98),(99,Tryz.f99),(100,Tryz.f100),(101,Tryz.f101),(102,Tryz.f102),(103,Tryz.f103),(104,Tryz.f104),(105,Tryz.f105),(106,Tryz.f106),(107,Tryz.f107),(108,Tryz.f108),(109,Tryz.f109),(110,Tryz.f110),(111,Tryz.f111),(112,Tryz.f112),(113,Tryz.f113),(114,Tryz.f114),(115,Tryz.f115),(116,Tryz.f116),(117,Tryz.f117),(118,Tryz.f118),(119,Tryz.f119),(120,Tryz.f120),(121,Tryz.f121),(122,Tryz.f122),(123,Tryz.f123),(124,Tryz.f124),(125,Tryz.f125),(126,Tryz.f126),(127,Tryz.f127),(128,Tryz.f128),(129,Tryz.f129),(130,Tryz.f130),(131,Tryz.f131),(132,Tryz.f132),(133,Tryz.f133),(134,Tryz.f134),(136,Tryz.f136),(137,Tryz.f137),(138,Tryz.f138),(139,Tryz.f139),(140,Tryz.f140),(141,Tryz.f141),(142,Tryz.f142),(145,Tryz.f145),(146,Tryz.f146),(148,Tryz.f148),(149,Tryz.f149),(150,Tryz.f150),(151,Tryz.f151),(152,Tryz.f152),(153,Tryz.f153),(154,Tryz.f154),(155,Tryz.f155),(157,Tryz.f157),(158,Tryz.f158),(159,Tryz.f159),(160,Tryz.f160),(161,Tryz.f161),(162,Tryz.f162),(164,Tryz.f164),(165,Tryz.f165),(166,Tryz.f166)]
def hints:FuncId→iZ
 | 3=>{ take:=fun r i=>match r,i with| 8,6=>true| 8,10=>true| 9,3=>true| 10,3=>true| 11,4=>true| 11,8=>true| 19,0=>true| 20,0=>true| 31,6=>true| 31,10=>true| 32,0=>true| 32,1=>true| 35,0=>true|_,_=>false,late:=fun i=>match i with| 8=>some [0,1,2,3,4,5,6,9,7,8,10,11]| 31=>some [0,1,2,3,4,5,6,9,7,8,10,11]|_=>none,keep:=fun i=>match i with| 8=>some [2,3,4]| 31=>some [2,3,4,8,9,12,15]|_=>none,draw:=fun i=>match i with| 8=>some (7,[[],[0],[],[0,1,2],[],[0,1,2,3,4],[0,1,2,3,4,5],[],[0,1,2,3,4,5,6],[0,1,2,3,4,5,6],[0,1,2,3,4,5,6,7,8],[0,1,2,3,4,5,6,7,8,9,10]])| 14=>some (3,[[],[],[1],[0,1,2],[0,1,2,3]])| 16=>some (3,[[],[],[1],[0,1,2],[0,1,2,3]])| 31=>some (7,[[],[0],[],[0,1,2],[],[0,1,2,3,4],[0,1,2,3,4,5],[],[0,1,2,3,4,5,6],[0,1,2,3,4,5,6],[0,1,2,3,4,5,6,7,8],[0,1,2,3,4,5,6,7,8,9,10]])|_=>none }
 | 6=>{ take:=fun r i=>match r,i with| 2,1=>true| 4,6=>true| 5,3=>true| 10,1=>true| 14,1=>true| 15,1=>true| 15,3=>true|_,_=>false,draw:=fun i=>match i with| 9=>some (6,[[],[0],[],[],[2,3],[2,3,4],[0,1,2,3,4,5],[0,1,2,3,4,5,6],[0,1,2,3,4,5,6,7],[0,1,2,3,4,5,6,7,8]])| 11=>some (7,[[],[0],[],[],[2,3],[2,3,4],[],[0,1,2,3,4,5,6],[0,1,2,3,4,5,6,7]])|_=>none,head:=fun i=>match i with| 7=>some [3,4,6,9,10,11,12]|_=>none,tail:=fun i e=>match i,e with| 7,.exit 0=>some [3,4,6,9,11]| 7,.ret=>some [6,7]|_,_=>none }
 | 7=>{ take:=fun r i=>match r,i with| 7,4=>true| 8,0=>true| 8,1=>true|_,_=>false }
 | 8=>{ take:=fun r i=>match r,i with| 5,4=>true| 6,0=>true| 6,1=>true|_,_=>false }
 | 9=>{ take:=fun r i=>match r,i with| 2,1=>true| 4,6=>true| 5,3=>true| 6,0=>true| 10,1=>true| 15,0=>true| 15,1=>true|_,_=>false,head:=fun i=>match i with| 7=>some [3,4,6,9,11,45,46,47]|_=>none,tail:=fun i e=>match i,e with| 7,.exit 0=>some [3,6,11]| 7,.ret=>some [6,7]|_,_=>none }
 | 15=>{ head:=fun i=>match i with| 5=>some [0,1,5]|_=>none,tail:=fun i e=>match i,e with| 5,.exit 0=>some [1]| 5,.ret=>some [4]|_,_=>none }
 | 19=>{ take:=fun r i=>match r,i with| 3,3=>true|_,_=>false,draw:=fun i=>match i with| 7=>some (6,[[],[0],[],[],[2,3],[2,3,4],[0,1,2,3,4,5],[0,1,2,3,4,5,6],[0,1,2,3,4,5,6,7],[0,1,2,3,4,5,6,7,8]])|_=>none,head:=fun i=>match i with| 5=>some [4,8,9,10,11]|_=>none,tail:=fun i e=>match i,e with| 5,.exit 0=>some [8,9]| 5,.ret=>some [6,7]|_,_=>none }
 | 20=>{ take:=fun r i=>match r,i with| 1,1=>true| 3,0=>true| 3,1=>true| 4,3=>true| 5,4=>true| 9,6=>true| 18,0=>true| 18,4=>true| 19,0=>true| 19,1=>true|_,_=>false,draw:=fun i=>match i with| 9=>some (5,[[],[],[],[1,2],[1,2,3],[0,1,2,3,4],[0,1,2,3,4,5]])| 13=>some (29,[[],[],[],[1,2],[1,2,3],[],[],[],[6,7],[6,7,8],[5,6,7,8,9],[5,6,7,8,9,10],[5,6,7,8,9,10,11],[5,6,7,8,9,10,11,12],[5,6,7,8,9,10,11,12],[5,6,7,8,9,10,11,12,13,14],[5,6,7,8,9,10,11,12,13,14,15],[5,6,7,8,9,10,11,12],[5,6,7,8,9,10,11,12,13,14,15,16,17],[5,6,7,8,9,10,11,12,13,14,15,16,17,18],[5,6,7,8,9,10,11,12,13,14,15,16,17,18,19],[5,6,7,8,9,10,11,12,13,14,15,16,17,18,19,20],[5,6,7,8,9,10,11,12,13,14,15,16,17,18,19,20],[5,6,7,8,9,10,11,12,13,14,15,16,17,18,19,20],[5,6,7,8,9,10,11,12,13,14,15,16,17,18,19,20,22,23],[5,6,7,8,9,10,11,12,13,14,15,16,17,18,19,20,22,23,24],[5,6,7,8,9,10,11,12,13,14,15,16,17,18,19,20,21,22,23,24,25],[5,6,7,8,9,10,11,12,13,14,15,16,17,18,19,20,21,22,23,24,25,26],[5,6,7,8,9,10,11,12,13,14,15,16,17,18,19,20,21,22,23,24,25,26,27],[0,1,2,3,4,5,6,7,8,9,10,11,12,13,14,15,16,17,18,19,20,21,22,23,24,25,26,27,28],[0,1,2,3,4,5,6,7,8,9,10,11,12,13,14,15,16,17,18,19,20,21,22,23,24,25,26,27,28,29]])|_=>none,head:=fun i=>match i with| 7=>some [1,2,5,6,7,8]| 11=>some [1,2,5,6,7,8,9,10]| 15=>some [5,7,11]|_=>none,tail:=fun i e=>match i,e with| 7,.exit 0=>some [5,7]| 7,.ret=>some [4]| 11,.exit 0=>some [5,7]| 11,.exit 1=>some [1,2,5,6,7,8]| 11,.exit 2=>some [1,2,5,6,7,8]| 11,.ret=>some [4]| 15,.exit 4=>some [5]| 15,.ret=>some [4]|_,_=>none }
 | 21=>{ take:=fun r i=>match r,i with| 1,5=>true| 2,0=>true| 2,1=>true|_,_=>false }
 | 22=>{ take:=fun r i=>match r,i with| 1,3=>true| 3,0=>true| 3,1=>true| 4,3=>true| 12,0=>true| 12,1=>true|_,_=>false,draw:=fun i=>match i with| 8=>some (11,[[],[],[],[],[2,3],[2,3,4],[0,1,2,3,4,5],[0,1,2,3,4,5,6],[0,1,2,3,4,5,6,7],[0,1,2,3,4,5,6,7],[0,1,2,3,4,5,6,7,8],[0,1,2,3,4,5,6,7,8,9,10]])| 9=>some (8,[[],[0],[0,1],[0,1,2],[0,1],[0,1],[0,1,4,5],[0,1,4,5,6],[0,1,2,3,4,5,6,7],[0,1,2,3,4,5,6,7,8],[0,1,2,3,4,5,6,7,8,9],[0,1,2,3,4,5,6,7,8,9,10],[0,1,2,3,4,5,6,7,8,9,10,11]])| 10=>some (6,[[],[0],[],[],[2,3],[2,3,4],[0,1,2,3,4,5],[0,1,2,3,4,5,6],[0,1,2,3,4,5,6,7]])| 11=>some (6,[[],[0],[],[],[2,3],[2,3,4],[0,1,2,3,4,5],[0,1,2,3,4,5,6],[0,1,2,3,4,5,6,7]])|_=>none,head:=fun i=>match i with| 6=>some [2,4,5,6,7]|_=>none,tail:=fun i e=>match i,e with| 6,.exit 0=>some [4,5]| 6,.ret=>some [4]|_,_=>none }
 | 23=>{ take:=fun r i=>match r,i with| 1,3=>true| 5,8=>true| 6,0=>true| 6,1=>true|_,_=>false,head:=fun i=>match i with| 3=>some [0,3,4]|_=>none,tail:=fun i e=>match i,e with| 3,.exit 0=>some [3]| 3,.ret=>some [2]|_,_=>none }
 | 25=>{ take:=fun r i=>match r,i with| 1,3=>true| 6,0=>true| 6,1=>true|_,_=>false,head:=fun i=>match i with| 3=>some [0,3,4]|_=>none,tail:=fun i e=>match i,e with| 3,.exit 0=>some [3]| 3,.ret=>some [2]|_,_=>none }
 | 28=>{ head:=fun i=>match i with| 3=>some [3,5,10,11,17,18,19]|_=>none,tail:=fun i e=>match i,e with| 3,.exit 0=>some [10,11]| 3,.ret=>some [8,9]|_,_=>none }
 | 30=>{ take:=fun r i=>match r,i with| 9,0=>true| 9,4=>true| 13,0=>true| 13,1=>true|_,_=>false,head:=fun i=>match i with| 3=>some [1,2,5,11,12,13]| 6=>some [1,2,5,7,11,12,13,19,20,21]|_=>none,tail:=fun i e=>match i,e with| 3,.exit 0=>some [5]| 3,.ret=>some [4]| 6,.exit 0=>some [5]| 6,.exit 1=>some [1,2,5,11,12,13]| 6,.exit 2=>some [1,2,5,11,12,13]| 6,.ret=>some [4]|_,_=>none }
 | 31=>{ take:=fun r i=>match r,i with| 1,4=>true| 2,0=>true| 2,1=>true|_,_=>false }
 | 32=>{ draw:=fun i=>match i with| 4=>some (10,[[],[],[1],[1,2],[],[0,1,2,3,4],[0,1,2,3,4,5],[0,1,2,3,4,5,6],[0,1,2,3,4,5,6],[0,1,2,3,4,5,6,7],[0,1,2,3,4,5,6,7,8,9]])|_=>none,head:=fun i=>match i with| 2=>some [0,3,9,10,11]|_=>none,tail:=fun i e=>match i,e with| 2,.exit 0=>some [0]| 2,.ret=>some [0]|_,_=>none }
 | 34=>{ draw:=fun i=>match i with| 6=>some (8,[[],[],[0,1],[0,1,2],[],[],[4,5],[4,5,6],[0,1,2,3,4,5,6,7],[0,1,2,3,4,5,6,7,8]])|_=>none,head:=fun i=>match i with| 4=>some [0,1,5]|_=>none,tail:=fun i e=>match i,e with| 4,.exit 0=>some []| 4,.ret=>some [4]|_,_=>none }
 | 35=>{ draw:=fun i=>match i with| 6=>some (8,[[],[],[0,1],[0,1,2],[],[],[4,5],[4,5,6],[0,1,2,3,4,5,6,7],[0,1,2,3,4,5,6,7,8]])|_=>none,head:=fun i=>match i with| 4=>some [0,1,5]|_=>none,tail:=fun i e=>match i,e with| 4,.exit 0=>some []| 4,.ret=>some [4]|_,_=>none }
 | 36=>{ head:=fun i=>match i with| 2=>some [0,1,5]|_=>none,tail:=fun i e=>match i,e with| 2,.exit 0=>some [0,1]| 2,.ret=>some [0,4]|_,_=>none }
 | 37=>{ head:=fun i=>match i with| 2=>some [0,1,5]|_=>none,tail:=fun i e=>match i,e with| 2,.exit 0=>some [0,1]| 2,.ret=>some [0,4]|_,_=>none }
 | 38=>{ head:=fun i=>match i with| 2=>some [0,1,5]|_=>none,tail:=fun i e=>match i,e with| 2,.exit 0=>some [1]| 2,.ret=>some [4]|_,_=>none }
 | 40=>{ take:=fun r i=>match r,i with| 1,3=>true| 1,7=>true| 2,0=>true|_,_=>false,draw:=fun i=>match i with| 10=>some (7,[[],[0],[0,1],[0,1,2],[],[4],[4,5],[0,1,2,3,4,5,6],[0,1,2,3,4,5,6,7]])|_=>none,head:=fun i=>match i with| 6=>some [1,7]|_=>none,tail:=fun i e=>match i,e with| 6,.exit 0=>some [1]| 6,.ret=>some [2]|_,_=>none }
 | 41=>{ draw:=fun i=>match i with| 7=>some (30,[[],[0],[0,1],[0,1,2],[0,1,2,3],[0,1,2,3,4],[0,1,2,3,4,5],[0,1,2,3,4],[0,1,2,3,4,7],[0,1,2,3,4],[0,1,2,3,4,7,8,9],[0,1,2,3,4,7,8,9,10],[0,1,2,3,4,7,8,9,10,11],[0,1,2,3,4,7,8,9,10,11,12],[0,1,2,3,4,5,6,7,8,9,10,11,12,13],[0,1,2,3,4,5,6,7,8,9,10,11,12,13,14],[0,1,2,3,4,5,6,7,8,9,10,11,12,13,14,15],[0,1,2,3,4,5,6,7,8,9,10,11,12,13,14,15,16],[0,1,2,3,4,5,6,7,8,9,10,11,12,13,14,15,16,17],[0,1,2,3,4,5,6,7,8,9,10,11,12,13,14,15,16,17,18],[0,1,2,3,4,5,6,7,8,9,10,11,12,13,14,15,16,17,18,19],[0,1,2,3,4,5,6,7,8,9,10,11,12,13,14,15,16,17,18,19,20],[0,1,2,3,4,5,6,7,8,9,10,11,12,13,14,15,16,17,18,19,20,21],[0,1,2,3,4,5,6,7,8,9,10,11,12,13,14,15,16,17,18,19,20,21,22],[0,1,2,3,4,5,6,7,8,9,10,11,12,13,14,15,16,17,18,19,20,21,22,23],[0,1,2,3,4,5,6,7,8,9,10,11,12,13,14,15,16,17,18,19,20,21,22,23,24],[0,1,2,3,4,5,6,7,8,9,10,11,12,13,14,15,16,17,18,19,20,21,22,23,24,25],[0,1,2,3,4,5,6,7,8,9,10,11,12,13,14,15,16,17,18,19,20,21,22,23],[0,1,2,3,4,5,6,7,8,9,10,11,12,13,14,15,16,17,18,19,20,21,22,23,27],[0,1,2,3,4,5,6,7,8,9,10,11,12,13,14,15,16,17,18,19,20,21,22,23,27,28],[0,1,2,3,4,5,6,7,8,9,10,11,12,13,14,15,16,17,18,19,20,21,22,23,24,25,26,27,28,29],[0,1,2,3,4,5,6,7,8,9,10,11,12,13,14,15,16,17,18,19,20,21,22,23,24,25,26,27,28,29,30],[0,1,2,3,4,5,6,7,8,9,10,11,12,13,14,15,16,17,18,19,20,21,22,23,24,25,26,27,28,29,30,31],[0,1,2,3,4,5,6,7,8,9,10,11,12,13,14,15,16,17,18,19,20,21,22,23,24,25,26,27,28,29,30,31,32],[0,1,2,3,4,5,6,7,8,9,10,11,12,13,14,15,16,17,18,19,20,21,22,23,24,25,26,27,28,29,30,31,32,33],[0,1,2,3,4,5,6,7,8,9,10,11,12,13,14,15,16,17,18,19,20,21,22,23,24,25,26,27,28,29,30,31,32,33,34],[0,1,2,3,4,5,6,7,8,9,10,11,12,13,14,15,16,17,18,19,20,21,22,23,24,25,26,27,28,29,30,31,32,33,34,35],[0,1,2,3,4,5,6,7,8,9,10,11,12,13,14,15,16,17,18,19,20,21,22,23,24,25,26,27,28,29,30,31,32,33,34,35,36]])|_=>none,head:=fun i=>match i with| 4=>some [2,3,5]|_=>none,tail:=fun i e=>match i,e with| 4,.exit 0=>some []| 4,.ret=>some [4]|_,_=>none }
 | 42=>{ take:=fun r i=>match r,i with| 1,1=>true| 9,0=>true| 9,4=>true| 10,0=>true| 10,1=>true|_,_=>false,draw:=fun i=>match i with| 8=>some (15,[[],[0],[],[0,1,2],[0,1,2,3],[0,1,2,3,4],[],[0,1,2,3,4,5,6],[0,1,2,3,4,5,6,7],[],[9],[],[9,10,11],[9,10,11,12],[9,10,11,12,13],[0,1,2,3,4,5,6,7,8,9,10,11,12,13,14]])|_=>none,head:=fun i=>match i with| 3=>some [1,2,5,6]| 6=>some [1,2,5,6,7]|_=>none,tail:=fun i e=>match i,e with| 3,.exit 0=>some [5]| 3,.ret=>some [4]| 6,.exit 0=>some [5]| 6,.exit 1=>some [1,2,5,6]| 6,.exit 2=>some [1,2,5,6]| 6,.ret=>some [4]|_,_=>none }
 | 43=>{ take:=fun r i=>match r,i with| 1,1=>true| 15,0=>true| 15,4=>true| 17,0=>true| 17,1=>true|_,_=>false,head:=fun i=>match i with| 3=>some [0,3,4]| 6=>some [0,3,4,5]| 11=>some [0,3,4,5,6,7]|_=>none,tail:=fun i e=>match i,e with| 3,.exit 0=>some [3]| 3,.ret=>some [2]| 6,.exit 0=>some [3]| 6,.exit 1=>some [0,3,4]| 6,.exit 2=>some [0,3,4]| 6,.ret=>some [2]| 11,.exit 0=>some [3]| 11,.exit 1=>some [0,3,4]| 11,.exit 2=>some [0,3,4]| 11,.exit 3=>some [0,3,4,5]| 11,.exit 4=>some [0,3,4,5,6]| 11,.ret=>some [2]|_,_=>none }
 | 44=>{ take:=fun r i=>match r,i with| 6,4=>true| 7,0=>true| 7,1=>true|_,_=>false }
 | 47=>{ draw:=fun i=>match i with| 17=>some (6,[[],[0],[0,1],[],[3],[3,4],[0,1,2,3,4,5],[0,1,2,3,4,5,6]])|_=>none,head:=fun i=>match i with| 6=>some [1,40,41,42]| 11=>some [1,40,41,42,59,60,61]|_=>none,tail:=fun i e=>match i,e with| 6,.exit 0=>some [1]| 6,.ret=>some [2]| 11,.exit 0=>some [1]| 11,.exit 1=>some [1,40,41,42]| 11,.exit 2=>some [1,40,41,42]| 11,.ret=>some [2]|_,_=>none }
 | 48=>{ head:=fun i=>match i with| 4=>some [2,3,34,35]|_=>none,tail:=fun i e=>match i,e with| 4,.exit 0=>some []| 4,.ret=>some [4]|_,_=>none }
 | 49=>{ take:=fun r i=>match r,i with| 5,0=>true| 5,6=>true| 8,0=>true| 8,1=>true|_,_=>false,head:=fun i=>match i with| 3=>some [2,5,13,14,15]|_=>none,tail:=fun i e=>match i,e with| 3,.exit 0=>some [5]| 3,.ret=>some [4]|_,_=>none }
 | 50=>{ take:=fun r i=>match r,i with| 4,1=>true| 5,4=>true|_,_=>false,head:=fun i=>match i with| 2=>some [1,3]|_=>none,tail:=fun i e=>match i,e with| 2,.exit 0=>some [2]| 2,.ret=>some [2]|_,_=>none }
 | 53=>{ take:=fun r i=>match r,i with| 3,3=>true|_,_=>false }
 | 56=>{ head:=fun i=>match i with| 4=>some [0,3]|_=>none,tail:=fun i e=>match i,e with| 4,.exit 0=>some [3]| 4,.ret=>some [2]|_,_=>none }
 | 57=>{ head:=fun i=>match i with| 2=>some [0,1,5]|_=>none,tail:=fun i e=>match i,e with| 2,.exit 0=>some [0,1]| 2,.ret=>some [0,4]|_,_=>none }
 | 58=>{ head:=fun i=>match i with| 5=>some [0,1,5]|_=>none,tail:=fun i e=>match i,e with| 5,.exit 0=>some [1]| 5,.ret=>some [4]|_,_=>none }
 | 59=>{ take:=fun r i=>match r,i with| 1,2=>true| 1,5=>true| 3,1=>true| 4,2=>true| 5,1=>true| 6,5=>true| 6,9=>true| 7,5=>true| 7,9=>true| 8,5=>true| 8,9=>true| 9,5=>true| 9,9=>true| 10,1=>true| 10,5=>true| 10,9=>true| 15,1=>true| 16,0=>true| 16,1=>true|_,_=>false,head:=fun i=>match i with| 12=>some [2,6,7,8]|_=>none,tail:=fun i e=>match i,e with| 12,.exit 0=>some [2,6]| 12,.ret=>some [2,3]|_,_=>none }
 | 60=>{ draw:=fun i=>match i with| 3=>some (22,[[],[0],[0,1],[0,1,2],[],[4],[0,1,2,4,5],[0,1,2,3,4,5,6],[0,1,2,3,4,5,6,7],[],[9],[0,1,2,4,5,6,9,10],[0,1,2,3,4,5,6,7,8,9,10,11],[0,1,2,3,4,5,6,7,8,9,10,11,12],[],[14],[0,1,2,4,5,6,9,10,11,14,15],[0,1,2,3,4,5,6,7,8,9,10,11,12,13,14,15,16],[0,1,2,3,4,5,6,7,8,9,10,11,12,13,14,15,16,17],[],[19],[0,1,2,4,5,6,9,10,11,14,15,16,19,20],[0,1,2,3,4,5,6,7,8,9,10,11,12,13,14,15,16,17,18,19,20,21],[0,1,2,3,4,5,6,7,8,9,10,11,12,13,14,15,16,17,18,19,20,21,22],[0,1,2,3,4,5,6,7,8,9,10,11,12,13,14,15,16,17,18,19,20,21,22,23]])|_=>none }
 | 61=>{ head:=fun i=>match i with| 4=>some [0,3]|_=>none,tail:=fun i e=>match i,e with| 4,.exit 0=>some []| 4,.ret=>some [2]|_,_=>none }
 | 62=>{ draw:=fun i=>match i with| 7=>some (33,[[],[],[1],[],[1,2,3],[1,2,3,4],[0,1,2,3,4,5],[0,1,2,3,4,5,6],[0,1,2,3,4,5,6,7],[0,1,2,3,4,5,6,7,8],[0,1,2,3,4,5,6,7,8,9],[0,1,2,3,4,5,6,7,8],[0,1,2,3,4,5,6,7,8,9,10,11],[0,1,2,3,4,5,6,7,8,9,10,11,12],[0,1,2,3,4,5,6,7,8],[0,1,2,3,4,5,6,7,8,14],[0,1,2,3,4,5,6,7,8,9,10,11,12,13,14,15],[0,1,2,3,4,5,6,7,8,9,10,11,12,13,14,15,16],[0,1,2,3,4,5,6,7,8,9,10,11,12,13,14,15,16,17],[0,1,2,3,4,5,6,7,8,9,10,11,12,13,14,15,16,17,18],[0,1,2,3,4,5,6,7,8,9,10,11,12,13,14,15,16,17,18,19],[0,1,2,3,4,5,6,7,8,9,10,11,12,13,14,15,16,17,18,19,20],[0,1,2,3,4,5,6,7,8,9,10,11,12,13,14,15,16,17,18,19,20,21],[0,1,2,3,4,5,6,7,8,9,10,11,12,13,14,15,16,17,18,19,20,21,22],[0,1,2,3,4,5,6,7,8,9,10,11,12,13,14,15,16,17,18,19,20,21],[0,1,2,3,4,5,6,7,8,9,10,11,12,13,14,15,16,17,18,19,20,21,24],[0,1,2,3,4,5,6,7,8,9,10,11,12,13,14,15,16,17,18,19,20,21,22,23,24,25],[0,1,2,3,4,5,6,7,8,9,10,11,12,13,14,15,16,17,18,19,20,21,22,23,24,25,26],[0,1,2,3,4,5,6,7,8,9,10,11,12,13,14,15,16,17,18,19,20,21],[0,1,2,3,4,5,6,7,8,9,10,11,12,13,14,15,16,17,18,19,20,21,28],[0,1,2,3,4,5,6,7,8,9,10,11,12,13,14,15,16,17,18,19,20,21],[0,1,2,3,4,5,6,7,8,9,10,11,12,13,14,15,16,17,18,19,20,21,28,29,30],[0,1,2,3,4,5,6,7,8,9,10,11,12,13,14,15,16,17,18,19,20,21,28,29,30,31],[0,1,2,3,4,5,6,7,8,9,10,11,12,13,14,15,16,17,18,19,20,21,22,23,24,25,26,27,28,29,30,31,32],[0,1,2,3,4,5,6,7,8,9,10,11,12,13,14,15,16,17,18,19,20,21,22,23,24,25,26,27,28,29,30,31,32,33],[0,1,2,3,4,5,6,7,8,9,10,11,12,13,14,15,16,17,18,19,20,21,22,23,24,25,26,27,28,29,30,31,32,33,34]])|_=>none,head:=fun i=>match i with| 5=>some [0,5,6]|_=>none,tail:=fun i e=>match i,e with| 5,.exit 0=>some []| 5,.ret=>some [4]|_,_=>none }
 | 64=>{ head:=fun i=>match i with| 2=>some [0,1,5]|_=>none,tail:=fun i e=>match i,e with| 2,.exit 0=>some []| 2,.ret=>some [4]|_,_=>none }
 | 65=>{ head:=fun i=>match i with| 2=>some [0,1,5]|_=>none,tail:=fun i e=>match i,e with| 2,.exit 0=>some []| 2,.ret=>some [4]|_,_=>none }
 | 66=>{ take:=fun r i=>match r,i with| 1,3=>true| 6,0=>true| 6,1=>true|_,_=>false,head:=fun i=>match i with| 3=>some [0,3,4]|_=>none,tail:=fun i e=>match i,e with| 3,.exit 0=>some [3]| 3,.ret=>some [2]|_,_=>none }
 | 67=>{ head:=fun i=>match i with| 2=>some [0,3]|_=>none,tail:=fun i e=>match i,e with| 2,.exit 0=>some [0]| 2,.ret=>some [2]|_,_=>none }
 | 68=>{ take:=fun r i=>match r,i with| 1,2=>true| 1,6=>true| 2,0=>true|_,_=>false }
 | 69=>{ head:=fun i=>match i with| 4=>some [1,28,29,30]|_=>none,tail:=fun i e=>match i,e with| 4,.exit 0=>some []| 4,.ret=>some [2]|_,_=>none }
 | 72=>{ draw:=fun i=>match i with| 2=>some (14,[[],[0],[0,1],[0,1,2],[0,1,2,3],[0,1,2,3,4],[0,1,2,3,4,5],[0,1,2,3,4],[0,1,2,3,4,7],[0,1,2,3,4],[0,1,2,3,4,7,8,9],[0,1,2,3,4,7,8,9,10],[0,1,2,3,4,7,8,9,10,11],[0,1,2,3,4,7,8,9,10,11,12],[0,1,2,3,4,5,6,7,8,9,10,11,12,13],[0,1,2,3,4,5,6,7,8,9,10,11,12,13,14],[0,1,2,3,4,5,6,7,8,9,10,11,12,13,14,15],[0,1,2,3,4,5,6,7,8,9,10,11,12,13,14,15,16],[0,1,2,3,4,5,6,7,8,9,10,11,12,13,14,15,16,17],[0,1,2,3,4,5,6,7,8,9,10,11,12,13,14,15,16,17,18],[0,1,2,3,4,5,6,7,8,9,10,11,12,13,14,15,16,17,18,19],[0,1,2,3,4,5,6,7,8,9,10,11,12,13,14,15,16,17,18,19,20],[0,1,2,3,4,5,6,7,8,9,10,11,12,13,14,15,16,17,18,19,20,21]])|_=>none }
 | 73=>{ head:=fun i=>match i with| 2=>some [0,1,7,8]|_=>none,tail:=fun i e=>match i,e with| 2,.exit 0=>some []| 2,.ret=>some [4]|_,_=>none }
 | 74=>{ draw:=fun i=>match i with| 1=>some (10,[[],[],[],[2],[1,2,3],[0,1,2,3,4],[0,1,2,3,4,5],[0,1,2,3,4,5,6],[0,1,2,3,4,5,6,7],[0,1,2,3,4,5,6,7],[0,1,2,3,4,5,6,7,8,9],[0,1,2,3,4,5,6,7,8,9,10],[0,1,2,3,4,5,6,7,8,9,10,11]])|_=>none }
 | 75=>{ head:=fun i=>match i with| 2=>some [0,2,10,11,12]|_=>none,tail:=fun i e=>match i,e with| 2,.exit 0=>some []| 2,.ret=>some [6]|_,_=>none }
 | 76=>{ head:=fun i=>match i with| 2=>some [0,1,7,8]|_=>none,tail:=fun i e=>match i,e with| 2,.exit 0=>some []| 2,.ret=>some [4]|_,_=>none }
 | 77=>{ draw:=fun i=>match i with| 17=>some (12,[[],[0],[0,1],[0,1,2],[0,1,2],[0,1,2,4],[0,1,2,3,4,5],[0,1,2,3,4,5,6],[0,1,2],[0,1,2],[0,1,2,8,9],[0,1,2,8,9,10],[0,1,2,3,4,5,6,7,8,9,10,11],[0,1,2,3,4,5,6,7,8,9,10,11,12],[0,1,2,3,4,5,6,7,8,9,10,11,12,13]])|_=>none,head:=fun i=>match i with| 2=>some [0,1,2,3,8,9]|_=>none,tail:=fun i e=>match i,e with| 2,.exit 0=>some []| 2,.ret=>some []|_,_=>none }
 | 79=>{ draw:=fun i=>match i with| 6=>some (8,[[],[],[0,1],[0,1,2],[],[],[4,5],[4,5,6],[0,1,2,3,4,5,6,7]])|_=>none,head:=fun i=>match i with| 4=>some [0,1,5]|_=>none,tail:=fun i e=>match i,e with| 4,.exit 0=>some []| 4,.ret=>some [4]|_,_=>none }
 | 80=>{ take:=fun r i=>match r,i with| 1,1=>true| 3,0=>true| 3,1=>true| 9,1=>true| 12,0=>true| 12,7=>true| 15,1=>true| 16,0=>true| 16,1=>true|_,_=>false,head:=fun i=>match i with| 6=>some [0,4,5,6]|_=>none,tail:=fun i e=>match i,e with| 6,.exit 0=>some [4]| 6,.ret=>some [2,3]|_,_=>none }
 | 81=>{ take:=fun r i=>match r,i with| 1,3=>true| 2,2=>true| 8,1=>true| 13,1=>true| 18,0=>true| 18,4=>true| 19,0=>true| 19,1=>true|_,_=>false,head:=fun i=>match i with| 4=>some [1,2,8,9,10]| 10=>some [1,2,8,9,10,12,13,15]| 15=>some [2,8,16,17]|_=>none,tail:=fun i e=>match i,e with| 4,.exit 0=>some [1,2,8]| 4,.ret=>some [6,7]| 10,.exit 0=>some [1,2,8]| 10,.exit 1=>some [1,2,8,9,10]| 10,.exit 2=>some [1,2,8,9,10]| 10,.ret=>some [6,7]| 15,.exit 4=>some [16]| 15,.ret=>some [6,7]|_,_=>none }
 | 83=>{ head:=fun i=>match i with| 5=>some [0,5,6]|_=>none,tail:=fun i e=>match i,e with| 5,.exit 0=>some [5]| 5,.ret=>some [4]|_,_=>none }
 | 85=>{ take:=fun r i=>match r,i with| 1,2=>true| 1,5=>true| 3,1=>true| 8,6=>true| 8,9=>true| 10,1=>true| 11,1=>true| 11,3=>true| 13,0=>true| 13,1=>true|_,_=>false,head:=fun i=>match i with| 6=>some [2,4,6,24,25]|_=>none,tail:=fun i e=>match i,e with| 6,.exit 0=>some [2,6]| 6,.ret=>some [2,3]|_,_=>none }
 | 86=>{ take:=fun r i=>match r,i with| 8,0=>true| 8,3=>true| 13,0=>true| 13,5=>true| 15,0=>true| 15,1=>true| 15,5=>true| 17,0=>true|_,_=>false,head:=fun i=>match i with| 5=>some [1,4,13,14]| 11=>some [1,4,7,13,14,28,29,30]|_=>none,tail:=fun i e=>match i,e with| 5,.exit 0=>some [4]| 5,.ret=>some [2,3]| 11,.exit 0=>some [4]| 11,.exit 1=>some [4,13,14]| 11,.exit 2=>some [1,4,7,13,14]| 11,.ret=>some [2,3]|_,_=>none }
 | 90=>{ draw:=fun i=>match i with| 4=>some (13,[[],[],[0,1],[0,1,2],[0,1,2,3],[0,1,2,3],[0,1,2,3,4,5],[0,1,2,3,4,5,6],[0,1,2,3],[0,1,2,3],[0,1,2,3,9],[0,1,2,3,8,9,10],[0,1,2,3,8,9,10,11],[0,1,2,3,4,5,6,7,8,9,10,11,12],[0,1,2,3,4,5,6,7,8,9,10,11,12,13]])| 6=>some (16,[[],[],[],[],[3],[],[],[6],[5,6,7],[5,6,7,8],[],[],[10,11],[10,11,12],[0,1,5,6,7,8,9,10,11,12,13],[0,1,5,6,7,8,9,10,11,12,13,14],[0,1,2,3,4,5,6,7,8,9,10,11,12,13,14,15],[0,1,2,3,4,5,6,7,8,9,10,11,12,13,14,15,16]])|_=>none,head:=fun i=>match i with| 1=>some [0,1,2,6]| 4=>some [0,1,2,6,7]|_=>none,tail:=fun i e=>match i,e with| 1,.exit 0=>some []| 1,.ret=>some []| 4,.exit 0=>some []| 4,.exit 1=>some [0,1,2,6]| 4,.exit 2=>some [0,1,2,6]| 4,.ret=>some []|_,_=>none }
 | 91=>{ draw:=fun i=>match i with| 10=>some (18,[[],[],[],[],[],[3,4],[],[],[],[7,8],[6,7,8,9],[6,7,8,9,10],[],[],[12,13],[12,13,14],[0,1,6,7,8,9,10,11,12,13,14,15],[0,1,6,7,8,9,10,11,12,13,14,15,16],[0,1,2,3,4,5,6,7,8,9,10,11,12,13,14,15,16,17],[0,1,2,3,4,5,6,7,8,9,10,11,12,13,14,15,16,17,18]])|_=>none,head:=fun i=>match i with| 4=>some [0,6,7,8,9]| 8=>some [0,6,7,10]|_=>none,tail:=fun i e=>match i,e with| 4,.exit 0=>some [0,6,7,8]| 4,.ret=>some []| 8,.exit 2=>some []| 8,.ret=>some []|_,_=>none }
 | 92=>{ draw:=fun i=>match i with| 10=>some (18,[[],[],[],[],[],[3,4],[],[],[],[7,8],[6,7,8,9],[6,7,8,9,10],[],[],[12,13],[12,13,14],[0,1,6,7,8,9,10,11,12,13,14,15],[0,1,6,7,8,9,10,11,12,13,14,15,16],[0,1,2,3,4,5,6,7,8,9,10,11,12,13,14,15,16,17],[0,1,2,3,4,5,6,7,8,9,10,11,12,13,14,15,16,17,18]])|_=>none,head:=fun i=>match i with| 5=>some [0,1,6,7,8,9]|_=>none,tail:=fun i e=>match i,e with| 5,.exit 0=>some []| 5,.ret=>some []|_,_=>none }
 | 94=>{ draw:=fun i=>match i with| 3=>some (14,[[],[],[],[],[],[],[4,5],[4,5,6],[],[],[8,9],[8,9,10],[0,1,4,5,6,7,8,9,10,11],[0,1,4,5,6,7,8,9,10,11,12],[0,1,2,3,4,5,6,7,8,9,10,11,12,13],[0,1,2,3,4,5,6,7,8,9,10,11,12,13,14]])|_=>none,head:=fun i=>match i with| 2=>some [0,6,7]|_=>none,tail:=fun i e=>match i,e with| 2,.exit 0=>some []| 2,.ret=>some []|_,_=>none }
 | 95=>{ draw:=fun i=>match i with| 5=>some (13,[[],[],[0,1],[0,1,2],[0,1,2,3],[0,1,2,3],[0,1,2,3,4,5],[0,1,2,3,4,5,6],[0,1,2,3],[0,1,2,3],[0,1,2,3,9],[0,1,2,3,8,9,10],[0,1,2,3,8,9,10,11],[0,1,2,3,4,5,6,7,8,9,10,11,12],[0,1,2,3,4,5,6,7,8,9,10,11,12,13],[0,1,2,3,4,5,6,7,8,9,10,11,12,13,14]])| 11=>some (16,[[],[],[],[],[3],[],[],[6],[5,6,7],[5,6,7,8],[],[],[10,11],[10,11,12],[0,1,5,6,7,8,9,10,11,12,13],[0,1,5,6,7,8,9,10,11,12,13,14],[0,1,2,3,4,5,6,7,8,9,10,11,12,13,14,15],[0,1,2,3,4,5,6,7,8,9,10,11,12,13,14,15,16]])| 16=>some (9,[[],[],[0,1],[0,1,2],[],[],[5],[4,5,6],[4,5,6,7],[0,1,2,3,4,5,6,7,8],[0,1,2,3,4,5,6,7,8,9]])| 17=>some (16,[[],[],[],[],[3],[],[],[6],[5,6,7],[5,6,7,8],[],[],[10,11],[10,11,12],[0,1,5,6,7,8,9,10,11,12,13],[0,1,5,6,7,8,9,10,11,12,13,14],[0,1,2,3,4,5,6,7,8,9,10,11,12,13,14,15],[0,1,2,3,4,5,6,7,8,9,10,11,12,13,14,15,16]])| 22=>some (9,[[],[],[0,1],[0,1,2],[],[],[5],[4,5,6],[4,5,6,7],[0,1,2,3,4,5,6,7,8],[0,1,2,3,4,5,6,7,8,9]])| 23=>some (16,[[],[],[],[],[3],[],[],[6],[5,6,7],[5,6,7,8],[],[],[10,11],[10,11,12],[0,1,5,6,7,8,9,10,11,12,13],[0,1,5,6,7,8,9,10,11,12,13,14],[0,1,2,3,4,5,6,7,8,9,10,11,12,13,14,15],[0,1,2,3,4,5,6,7,8,9,10,11,12,13,14,15,16]])|_=>none,head:=fun i=>match i with| 3=>some [0,1,2,7,8]| 5=>some [0,1,2,7,8]| 14=>some [0,1,2,7,8,9]| 20=>some [0,1,2,7,8,10]|_=>none,tail:=fun i e=>match i,e with| 3,.exit 0=>some []| 3,.ret=>some [6]| 5,.exit 0=>some []| 5,.exit 1=>some [0,1,2,7,8]| 5,.exit 2=>some [0,1,2,7,8]| 5,.ret=>some [6]| 14,.exit 0=>some []| 14,.exit 1=>some [0,1,2,7,8]| 14,.exit 4=>some [0,1,2,7,8]| 14,.ret=>some [6]| 20,.exit 0=>some []| 20,.exit 1=>some [0,1,2,7,8]| 20,.exit 6=>some [0,1,2,7,8]| 20,.ret=>some [6]|_,_=>none }
 | 97=>{ draw:=fun i=>match i with| 1=>some (14,[[],[],[],[],[],[],[4,5],[4,5,6],[],[],[8,9],[8,9,10],[0,1,4,5,6,7,8,9,10,11],[0,1,4,5,6,7,8,9,10,11,12],[0,1,2,3,4,5,6,7,8,9,10,11,12,13],[0,1,2,3,4,5,6,7,8,9,10,11,12,13,14]])| 3=>some (12,[[],[],[0,1],[0,1,2],[0,1,2,3],[0,1,2,3],[0,1,2,3,4,5],[0,1,2,3,4,5,6],[0,1,2,3],[0,1,2,3],[0,1,2,3,8,9],[0,1,2,3,8,9,10],[0,1,2,3,4,5,6,7,8,9,10,11],[0,1,2,3,4,5,6,7,8,9,10,11,12],[0,1,2,3,4,5,6,7,8,9,10,11,12,13]])| 5=>some (12,[[],[],[0,1],[0,1,2],[0,1,2,3],[0,1,2,3],[0,1,2,3,4,5],[0,1,2,3,4,5,6],[0,1,2,3],[0,1,2,3],[0,1,2,3,8,9],[0,1,2,3,8,9,10],[0,1,2,3,4,5,6,7,8,9,10,11],[0,1,2,3,4,5,6,7,8,9,10,11,12]])| 8=>some (14,[[],[],[],[],[],[],[4,5],[4,5,6],[],[],[8,9],[8,9,10],[0,1,4,5,6,7,8,9,10,11],[0,1,4,5,6,7,8,9,10,11,12],[0,1,2,3,4,5,6,7,8,9,10,11,12,13],[0,1,2,3,4,5,6,7,8,9,10,11,12,13,14]])|_=>none,head:=fun i=>match i with| 7=>some [0,1,9,10]| 3=>some [0,1,9,10]| 5=>some [0,1,9,10]|_=>none,tail:=fun i e=>match i,e with| 7,.exit 0=>some [9]| 7,.ret=>some [8]| 3,.exit 0=>some [9]| 3,.exit 1=>some [0,1,9,10]| 3,.exit 2=>some [0,1,9,10]| 3,.ret=>some [8]| 5,.exit 0=>some [9]| 5,.exit 1=>some [0,1,9,10]| 5,.exit 4=>some [0,1,9,10]| 5,.ret=>some [8]|_,_=>none }
 | 98=>{ draw:=fun i=>match i with| 1=>some (14,[[],[],[],[],[],[],[4,5],[4,5,6],[],[],[8,9],[8,9,10],[0,1,4,5,6,7,8,9,10,11],[0,1,4,5,6,7,8,9,10,11,12],[0,1,2,3,4,5,6,7,8,9,10,11,12,13],[0,1,2,3,4,5,6,7,8,9,10,11,12,13,14]])| 3=>some (12,[[],[],[0,1],[0,1,2],[0,1,2,3],[0,1,2,3],[0,1,2,3,4,5],[0,1,2,3,4,5,6],[0,1,2,3],[0,1,2,3],[0,1,2,3,8,9],[0,1,2,3,8,9,10],[0,1,2,3,4,5,6,7,8,9,10,11],[0,1,2,3,4,5,6,7,8,9,10,11,12]])| 5=>some (12,[[],[],[0,1],[0,1,2],[0,1,2,3],[0,1,2,3],[0,1,2,3,4,5],[0,1,2,3,4,5,6],[0,1,2,3],[0,1,2,3],[0,1,2,3,8,9],[0,1,2,3,8,9,10],[0,1,2,3,4,5,6,7,8,9,10,11],[0,1,2,3,4,5,6,7,8,9,10,11,12],[0,1,2,3,4,5,6,7,8,9,10,11,12,13]])| 8=>some (14,[[],[],[],[],[],[],[4,5],[4,5,6],[],[],[8,9],[8,9,10],[0,1,4,5,6,7,8,9,10,11],[0,1,4,5,6,7,8,9,10,11,12],[0,1,2,3,4,5,6,7,8,9,10,11,12,13],[0,1,2,3,4,5,6,7,8,9,10,11,12,13,14]])| 10=>some (14,[[],[],[],[],[],[],[4,5],[4,5,6],[],[],[8,9],[8,9,10],[0,1,4,5,6,7,8,9,10,11],[0,1,4,5,6,7,8,9,10,11,12],[0,1,2,3,4,5,6,7,8,9,10,11,12,13],[0,1,2,3,4,5,6,7,8,9,10,11,12,13,14]])| 13=>some (12,[[],[],[0,1],[0,1,2],[0,1,2,3],[0,1,2,3],[0,1,2,3,4,5],[0,1,2,3,4,5,6],[0,1,2,3],[0,1,2,3],[0,1,2,3,8,9],[0,1,2,3,8,9,10],[0,1,2,3,4,5,6,7,8,9,10,11],[0,1,2,3,4,5,6,7,8,9,10,11,12]])| 15=>some (12,[[],[],[0,1],[0,1,2],[0,1,2,3],[0,1,2,3],[0,1,2,3,4,5],[0,1,2,3,4,5,6],[0,1,2,3],[0,1,2,3],[0,1,2,3,8,9],[0,1,2,3,8,9,10],[0,1,2,3,4,5,6,7,8,9,10,11],[0,1,2,3,4,5,6,7,8,9,10,11,12],[0,1,2,3,4,5,6,7,8,9,10,11,12,13]])| 18=>some (14,[[],[],[],[],[],[],[4,5],[4,5,6],[],[],[8,9],[8,9,10],[0,1,4,5,6,7,8,9,10,11],[0,1,4,5,6,7,8,9,10,11,12],[0,1,2,3,4,5,6,7,8,9,10,11,12,13],[0,1,2,3,4,5,6,7,8,9,10,11,12,13,14]])| 21=>some (14,[[],[],[],[],[],[],[4,5],[4,5,6],[],[],[8,9],[8,9,10],[0,1,4,5,6,7,8,9,10,11],[0,1,4,5,6,7,8,9,10,11,12],[0,1,2,3,4,5,6,7,8,9,10,11,12,13],[0,1,2,3,4,5,6,7,8,9,10,11,12,13,14]])|_=>none,head:=fun i=>match i with| 3=>some [0,1,10,11]| 5=>some [0,1,10,11]| 17=>some [0,1,10,11]| 13=>some [0,1,10,11]| 15=>some [0,1,10,11]|_=>none,tail:=fun i e=>match i,e with| 3,.exit 0=>some [0,1,10,11]| 3,.ret=>some [8,9]| 5,.exit 2=>some [0,1,10,11]| 5,.ret=>some [8,9]| 17,.exit 4=>some [0,1,11]| 17,.ret=>some [8,9]| 13,.exit 4=>some [0,1,11]| 13,.exit 5=>some [0,1,10,11]| 13,.exit 6=>some [0,1,10,11]| 13,.ret=>some [8,9]| 15,.exit 4=>some [0,1,11]| 15,.exit 5=>some [0,1,10,11]| 15,.exit 8=>some [0,1,10,11]| 15,.ret=>some [8,9]|_,_=>none }
 | 101=>{ take:=fun r i=>match r,i with| 1,1=>true| 7,0=>true| 7,7=>true| 9,0=>true| 9,1=>true|_,_=>false,head:=fun i=>match i with| 4=>some [0,1,5,6,7]|_=>none,tail:=fun i e=>match i,e with| 4,.exit 0=>some [5]| 4,.ret=>some [4]|_,_=>none }
 | 102=>{ take:=fun r i=>match r,i with| 6,2=>true| 12,7=>true|_,_=>false }
 | 103=>{ draw:=fun i=>match i with| 4=>some (21,[[],[],[0,1],[0,1,2],[],[],[0,1,2,3,4,5],[0,1,2,3,4,5,6],[0,1,2,3,4,5,6,7],[0,1,2,3,4,5,6,7,8],[0,1,2,3,4,5,6,7,8,9],[0,1,2,3,4,5,6,7,8,9,10],[0,1,2,3,4,5,6,7,8,9,10,11],[0,1,2,3,4,5,6,7,8,9,10,11],[0,1,2,3,4,5,6,7,8,9,10,11,13],[0,1,2,3,4,5,6,7,8,9,10,11,12,13,14],[0,1,2,3,4,5,6,7,8,9,10,11,12,13,14,15],[0,1,2,3,4,5,6,7,8,9,10,11],[0,1,2,3,4,5,6,7,8,9,10,11],[0,1,2,3,4,5,6,7,8,9,10,11,17,18],[0,1,2,3,4,5,6,7,8,9,10,11,17,18,19],[0,1,2,3,4,5,6,7,8,9,10,11,12,13,14,15,16,17,18,19,20],[0,1,2,3,4,5,6,7,8,9,10,11,12,13,14,15,16,17,18,19,20,21],[0,1,2,3,4,5,6,7,8,9,10,11,12,13,14,15,16,17,18,19,20,21,22]])|_=>none,head:=fun i=>match i with| 2=>some [0,1,2,7]|_=>none,tail:=fun i e=>match i,e with| 2,.exit 0=>some [0]| 2,.ret=>some [6]|_,_=>none }
 | 104=>{ head:=fun i=>match i with| 5=>some [0,3,4]|_=>none,tail:=fun i e=>match i,e with| 5,.exit 0=>some [3,4]| 5,.ret=>some [2]|_,_=>none }
 | 105=>{ take:=fun r i=>match r,i with| 13,0=>true| 13,4=>true| 17,0=>true| 17,1=>true|_,_=>false,head:=fun i=>match i with| 4=>some [0,4]| 10=>some [5,28,29,30]|_=>none,tail:=fun i e=>match i,e with| 4,.exit 0=>some [0]| 4,.ret=>some [2,3]| 10,.exit 2=>some [5]| 10,.ret=>some [2,3]|_,_=>none }
 | 106=>{ draw:=fun i=>match i with| 1=>some (15,[[],[0],[0,1],[],[3],[3,4],[],[6],[6,7],[],[9],[9,10],[],[12],[12,13],[0,1,2,3,4,5,6,7,8,9,10,11,12,13,14],[0,1,2,3,4,5,6,7,8,9,10,11,12,13,14,15]])|_=>none }
 | 107=>{ take:=fun r i=>match r,i with| 12,0=>true| 12,4=>true| 15,0=>true| 15,3=>true|_,_=>false,head:=fun i=>match i with| 4=>some [6,7,8,22,23,24]| 10=>some [6,7,8,12,13,15,22,23,24]|_=>none,tail:=fun i e=>match i,e with| 4,.exit 0=>some [8]| 4,.ret=>some [4,5]| 10,.exit 0=>some [8]| 10,.exit 1=>some [6,7,8,22,23,24]| 10,.exit 2=>some [6,7,8,22,23,24]| 10,.ret=>some [4,5]|_,_=>none }
 | 108=>{ head:=fun i=>match i with| 2=>some [1,10,11]| 7=>some [1,5,6,7,10,11,23,24,25]|_=>none,tail:=fun i e=>match i,e with| 2,.exit 0=>some []| 2,.ret=>some [2]| 7,.exit 0=>some []| 7,.exit 1=>some [10,11]| 7,.exit 2=>some [1,7,10,11]| 7,.ret=>some [2]|_,_=>none }
 | 111=>{ head:=fun i=>match i with| 12=>some [0,1,5,39,40,41]| 22=>some [1,8,63,64,65]|_=>none,tail:=fun i e=>match i,e with| 12,.exit 1=>some [0,1,5]| 12,.ret=>some [4]| 22,.exit 3=>some [8]| 22,.ret=>some [4]|_,_=>none }
 | 112=>{ draw:=fun i=>match i with| 3=>some (18,[[],[0],[],[0,1,2],[0,1,2,3],[0,1,2,3,4],[0,1,2,3,4],[0,1,2,3,4],[0,1,2,3,4,6,7],[0,1,2,3,4,5,6,7,8],[0,1,2,3,4,5,6,7,8,9],[0,1,2,3,4],[0,1,2,3,4],[0,1,2,3,4],[0,1,2,3,4,12,13],[0,1,2,3,4,12,13,14],[0,1,2,3,4,11,12,13,14,15],[0,1,2,3,4,11,12,13,14,15,16],[0,1,2,3,4,5,6,7,8,9,10,11,12,13,14,15,16,17],[0,1,2,3,4,5,6,7,8,9,10,11,12,13,14,15,16,17,18]])| 5=>some (12,[[],[],[],[1,2],[0,1,2,3],[0,1,2,3,4],[],[],[],[7,8],[6,7,8,9],[6,7,8,9,10],[0,1,2,3,4,5,6,7,8,9,10,11],[0,1,2,3,4,5,6,7,8,9,10,11,12]])| 6=>some (22,[[],[],[],[1,2],[],[],[],[5,6],[],[],[],[9,10],[8,9,10,11],[8,9,10,11,12],[],[],[],[15,16],[14,15,16,17],[14,15,16,17,18],[0,1,2,3,8,9,10,11,12,13,14,15,16,17,18,19],[0,1,2,3,8,9,10,11,12,13,14,15,16,17,18,19,20],[0,1,2,3,4,5,6,7,8,9,10,11,12,13,14,15,16,17,18,19,20,21],[0,1,2,3,4,5,6,7,8,9,10,11,12,13,14,15,16,17,18,19,20,21,22]])|_=>none,head:=fun i=>match i with| 1=>some [0,2,3,8]|_=>none,tail:=fun i e=>match i,e with| 1,.exit 0=>some []| 1,.ret=>some []|_,_=>none }
 | 114=>{ draw:=fun i=>match i with| 1=>some (7,[[],[0],[0,1],[],[3],[3,4],[3,4,5],[0,1,2,3,4,5,6],[0,1,2,3,4,5,6,7],[0,1,2,3,4,5,6,7,8]])| 2=>some (7,[[],[0],[0,1],[],[3],[3,4],[3,4,5],[0,1,2,3,4,5,6],[0,1,2,3,4,5,6,7],[0,1,2,3,4,5,6,7,8]])| 3=>some (7,[[],[0],[0,1],[],[3],[3,4],[3,4,5],[0,1,2,3,4,5,6],[0,1,2,3,4,5,6,7],[0,1,2,3,4,5,6,7,8]])|_=>none }
 | 118=>{ head:=fun i=>match i with| 5=>some [0,4,5]|_=>none,tail:=fun i e=>match i,e with| 5,.exit 0=>some [0,4]| 5,.ret=>some [2,3]|_,_=>none }
 | 124=>{ draw:=fun i=>match i with| 6=>some (9,[[],[],[0,1],[0,1,2],[],[],[5],[4,5,6],[4,5,6,7],[0,1,2,3,4,5,6,7,8]])| 11=>some (9,[[],[],[0,1],[0,1,2],[],[],[5],[4,5,6],[4,5,6,7],[0,1,2,3,4,5,6,7,8]])|_=>none,head:=fun i=>match i with| 4=>some [0,3]| 9=>some [0,3,4,5]|_=>none,tail:=fun i e=>match i,e with| 4,.exit 0=>some [0]| 4,.ret=>some [2]| 9,.exit 0=>some [0]| 9,.exit 1=>some [0,3]| 9,.exit 2=>some [0,3]| 9,.ret=>some [2]|_,_=>none }
 | 126=>{ draw:=fun i=>match i with| 3=>some (12,[[],[0],[0,1],[0,1,2],[0,1,2,3],[],[5],[5,6],[5,6,7],[5,6,7,8],[0,1,2,3,4,5,6,7,8,9],[],[0,1,2,3,4,5,6,7,8,9,10,11]])|_=>none }
 | 128=>{ draw:=fun i=>match i with| 1=>some (10,[[],[0],[0,1],[0,1,2],[0,1,2,3],[],[5],[5,6],[5,6,7],[5,6,7,8],[0,1,2,3,4,5,6,7,8,9],[0,1,2,3,4,5,6,7,8,9,10]])|_=>none }
 | 129=>{ draw:=fun i=>match i with| 1=>some (8,[[],[],[0,1],[0,1,2],[],[],[4,5],[4,5,6],[0,1,2,3,4,5,6,7]])|_=>none }
 | 130=>{ head:=fun i=>match i with| 11=>some [0,1,2,3,9,10]|_=>none,tail:=fun i e=>match i,e with| 11,.exit 0=>some [0,9,10]| 11,.ret=>some [8]|_,_=>none }
 | 132=>{ head:=fun i=>match i with| 5=>some [0,4,5]|_=>none,tail:=fun i e=>match i,e with| 5,.exit 0=>some [0,4]| 5,.ret=>some [2,3]|_,_=>none }
 | 136=>{ draw:=fun i=>match i with| 0=>some (14,[[],[0],[0,1],[0,1,2],[0,1,2,3],[0,1,2,3,4],[],[0,1,2,3,4,5,6],[0,1,2,3,4,5,6,7],[],[9],[9,10],[9,10,11],[9,10,11,12],[0,1,2,3,4,5,6,7,8,9,10,11,12,13],[0,1,2,3,4,5,6,7,8,9,10,11,12,13,14]])|_=>none }
 | 137=>{ head:=fun i=>match i with| 6=>some [0,1,6,7]|_=>none,tail:=fun i e=>match i,e with| 6,.exit 0=>some [0,1,6]| 6,.ret=>some [4]|_,_=>none }
 | 138=>{ head:=fun i=>match i with| 6=>some [0,1,5]|_=>none,tail:=fun i e=>match i,e with| 6,.exit 0=>some [4]| 6,.ret=>some [4]|_,_=>none }
 | 141=>{ draw:=fun i=>match i with| 3=>some (10,[[],[],[0,1],[],[],[],[5],[4,5,6],[3,4,5,6,7],[0,1,2],[0,1,2,3,4,5,6,7,8,9],[0,1,2,3,4,5,6,7,8,9,10]])|_=>none }
 | 145=>{ head:=fun i=>match i with| 2=>some [2,4]|_=>none,tail:=fun i e=>match i,e with| 2,.exit 0=>some [2]| 2,.ret=>some [2]|_,_=>none }
 | 148=>{ head:=fun i=>match i with| 15=>some [0,1,5,6,7,8,9,10]|_=>none,tail:=fun i e=>match i,e with| 15,.exit 1=>some []| 15,.ret=>some [4]|_,_=>none }
 | 152=>{ draw:=fun i=>match i with| 7=>some (13,[[],[],[1],[],[],[4],[],[6],[6,7],[],[9],[0,1,2,6,7,8],[0,1,2,6,7,8,11],[0,1,2,3,4,5,6,7,8,9,10,11,12],[0,1,2,3,4,5,6,7,8,9,10,11,12,13]])| 8=>some (13,[[],[],[1],[],[],[4],[],[6],[6,7],[],[9],[0,1,2,6,7,8],[0,1,2,6,7,8,11],[0,1,2,3,4,5,6,7,8,9,10,11,12],[0,1,2,3,4,5,6,7,8,9,10,11,12,13]])| 9=>some (13,[[],[],[1],[],[],[4],[],[6],[6,7],[],[9],[0,1,2,6,7,8],[0,1,2,6,7,8,11],[0,1,2,3,4,5,6,7,8,9,10,11,12],[0,1,2,3,4,5,6,7,8,9,10,11,12,13]])| 10=>some (13,[[],[],[1],[],[],[4],[],[6],[6,7],[],[9],[0,1,2,6,7,8],[0,1,2,6,7,8,11],[0,1,2,3,4,5,6,7,8,9,10,11,12],[0,1,2,3,4,5,6,7,8,9,10,11,12,13]])| 17=>some (13,[[],[],[1],[],[],[4],[],[6],[6,7],[],[9],[0,1,2,6,7,8],[0,1,2,6,7,8,11],[0,1,2,3,4,5,6,7,8,9,10,11,12],[0,1,2,3,4,5,6,7,8,9,10,11,12,13]])| 18=>some (13,[[],[],[1],[],[],[4],[],[6],[6,7],[],[9],[0,1,2,6,7,8],[0,1,2,6,7,8,11],[0,1,2,3,4,5,6,7,8,9,10,11,12],[0,1,2,3,4,5,6,7,8,9,10,11,12,13]])| 23=>some (13,[[],[],[1],[],[],[4],[],[6],[6,7],[],[9],[0,1,2,6,7,8],[0,1,2,6,7,8,11],[0,1,2,3,4,5,6,7,8,9,10,11,12],[0,1,2,3,4,5,6,7,8,9,10,11,12,13]])|_=>none,head:=fun i=>match i with| 1=>some [0,1,4]|_=>none,tail:=fun i e=>match i,e with| 1,.exit 0=>some [0,1,4]| 1,.ret=>some []|_,_=>none }
 | 153=>{ head:=fun i=>match i with| 11=>some [0,1,3,4,10,11,12,13,14,15,16]| 18=>some [0,1,3,4,10,11,12,13,17]|_=>none,tail:=fun i e=>match i,e with| 11,.exit 0=>some [0,1,3,4,10,11,12,13]| 11,.ret=>some [10,11]| 18,.exit 2=>some [0,1,3,4,10,11,12,13]| 18,.ret=>some [10,11]|_,_=>none }
 | 158=>{ head:=fun i=>match i with| 5=>some [0,1,5,6,7,8,9]| 11=>some [0,1,5,6,7,8,10]|_=>none,tail:=fun i e=>match i,e with| 5,.exit 0=>some [0,1,5,6,7,8]| 5,.ret=>some [4]| 11,.exit 2=>some []| 11,.ret=>some [4]|_,_=>none }
 | 164=>{ head:=fun i=>match i with| 3=>some [0,4,5]| 8=>some [4,6,7,8]|_=>none,tail:=fun i e=>match i,e with| 3,.exit 0=>some [0,4]| 3,.ret=>some [2,3]| 8,.exit 2=>some [4,6]| 8,.ret=>some [2,3]|_,_=>none }
 |_=>{}
theorem sV {α:Type}{p:α→Prop}:∀x∈([]:List α),p x:=fun x h=>by cases h
theorem ab {α:Type}{p:α→Prop}{a:α}{l:List α}(h:p a)(t:∀x∈l,p x):∀x∈a::l,p x:=fun x hx=>by
 rcases PD.1 hx with rfl|hx
 ·exact h
 ·exact t x hx
theorem NL:∀p∈tab.ts,ls Tryz.prog p.1=some p.2:=ab (by kernel_rfl) (ab (by kernel_rfl) (ab (by kernel_rfl) (ab (by kernel_rfl) (ab (by kernel_rfl) (ab (by kernel_rfl) (ab (by kernel_rfl) (ab (by kernel_rfl) (ab (by kernel_rfl) (ab (by kernel_rfl) (ab (by kernel_rfl) (ab (by kernel_rfl) (ab (by kernel_rfl) (ab (by kernel_rfl) (ab (by kernel_rfl) (ab (by kernel_rfl) (ab (by kernel_rfl) (ab (by kernel_rfl) (ab (by kernel_rfl) (ab (by kernel_rfl) (ab (by kernel_rfl) (ab (by kernel_rfl) (ab (by kernel_rfl) (ab (by kernel_rfl) (ab (by kernel_rfl) (ab (by kernel_rfl) (ab (by kernel_rfl) (ab (by kernel_rfl) (ab (by kernel_rfl) (ab (by kernel_rfl) (ab (by kernel_rfl) (ab (by kernel_rfl) (ab (by kernel_rfl) (ab (by kernel_rfl) (ab (by kernel_rfl) (ab (by kernel_rfl) (ab (by kernel_rfl) (ab (by kernel_rfl) (ab (by kernel_rfl) (ab (by kernel_rfl) (ab (by kernel_rfl) (ab (by kernel_rfl) (ab (by kernel_rfl) (ab (by kernel_rfl) (ab (by kernel_rfl) (ab (by kernel_rfl) (ab (by kernel_rfl) (ab (by kernel_rfl) (ab (by kernel_rfl) (ab (by kernel_rfl) (ab (by kernel_rfl) (ab (by kernel_rfl) (sV))))))))))))))))))))))))))))))))))))))))))))))))))))
theorem Nj:∀p∈tab.eqs,IB Tryz.prog p.1=some p.2:=ab (by kernel_rfl) (ab (by kernel_rfl) (ab (by kernel_rfl) (ab (by kernel_rfl) (ab (by kernel_rfl) (ab (by kernel_rfl) (ab (by kernel_rfl) (ab (by kernel_rfl) (sV))))))))
theorem Ny:∀p∈tab.pls,oM Tryz.prog p.1=some p.2:=ab (by kernel_rfl) (ab (by kernel_rfl) (ab (by kernel_rfl) (ab (by kernel_rfl) (ab (by kernel_rfl) (ab (by kernel_rfl) (ab (by kernel_rfl) (ab (by kernel_rfl) (ab (by kernel_rfl) (ab (by kernel_rfl) (ab (by kernel_rfl) (ab (by kernel_rfl) (ab (by kernel_rfl) (ab (by kernel_rfl) (ab (by kernel_rfl) (ab (by kernel_rfl) (ab (by kernel_rfl) (ab (by kernel_rfl) (ab (by kernel_rfl) (ab (by kernel_rfl) (ab (by kernel_rfl) (ab (by kernel_rfl) (ab (by kernel_rfl) (ab (by kernel_rfl) (ab (by kernel_rfl) (sV)))))))))))))))))))))))))
theorem Nf:∀p∈tab.ars,LF Tryz.prog p.1=some p.2:=ab (by kernel_rfl) (sV)
theorem MH:∀p∈tab.addr,D6 Tryz.prog p.1 p.2:=ab It (sV)
theorem NB:bo Tryz.prog tab:=⟨NL,Nj,Ny,by kernel_rfl,Nf,MH⟩
theorem L8 : ∀ p ∈ My, Tryz.prog.funcs[p.1]? = some p.2 ∧ (p.2.name == "runtime.NumGoroutine") = false ∧ p.2.body.isNone = false := ab ⟨Tryz.func3, by kernel_rfl, by kernel_rfl⟩ (ab ⟨Tryz.func4, by kernel_rfl, by kernel_rfl⟩ (ab ⟨Tryz.func5, by kernel_rfl, by kernel_rfl⟩ (ab ⟨Tryz.func6, by kernel_rfl, by kernel_rfl⟩ (ab ⟨Tryz.func7, by kernel_rfl, by kernel_rfl⟩ (ab ⟨Tryz.func8, by kernel_rfl, by kernel_rfl⟩ (ab ⟨Tryz.func9, by kernel_rfl, by kernel_rfl⟩ (ab ⟨Tryz.func10, by kernel_rfl, by kernel_rfl⟩ (ab ⟨Tryz.func11, by kernel_rfl, by kernel_rfl⟩ (ab ⟨Tryz.func12, by kernel_rfl, by kernel_rfl⟩ (ab ⟨Tryz.func13, by kernel_rfl, by kernel_rfl⟩ (ab ⟨Tryz.func14, by kernel_rfl, by kernel_rfl⟩ (ab ⟨Tryz.func15, by kernel_rfl, by kernel_rfl⟩ (ab ⟨Tryz.func16, by kernel_rfl, by kernel_rfl⟩ (ab ⟨Tryz.func17, by kernel_rfl, by kernel_rfl⟩ (ab ⟨Tryz.func18, by kernel_rfl, by kernel_rfl⟩ (ab ⟨Tryz.func19, by kernel_rfl, by kernel_rfl⟩ (ab ⟨Tryz.func20, by kernel_rfl, by kernel_rfl⟩ (ab ⟨Tryz.func21, by kernel_rfl, by kernel_rfl⟩ (ab ⟨Tryz.func22, by kernel_rfl, by kernel_rfl⟩ (ab ⟨Tryz.func23, by kernel_rfl, by kernel_rfl⟩ (ab ⟨Tryz.func24, by kernel_rfl, by kernel_rfl⟩ (ab ⟨Tryz.func25, by kernel_rfl, by kernel_rfl⟩ (ab ⟨Tryz.func26, by kernel_rfl, by kernel_rfl⟩ (ab ⟨Tryz.func27, by kernel_rfl, by kernel_rfl⟩ (ab ⟨Tryz.func28, by kernel_rfl, by kernel_rfl⟩ (ab ⟨Tryz.func29, by kernel_rfl, by kernel_rfl⟩ (ab ⟨Tryz.func30, by kernel_rfl, by kernel_rfl⟩ (ab ⟨Tryz.func31, by kernel_rfl, by kernel_rfl⟩ (ab ⟨Tryz.func32, by kernel_rfl, by kernel_rfl⟩ (ab ⟨Tryz.func33, by kernel_rfl, by kernel_rfl⟩ (ab ⟨Tryz.func34, by kernel_rfl, by kernel_rfl⟩ (ab ⟨Tryz.func35, by kernel_rfl, by kernel_rfl⟩ (ab ⟨Tryz.func36, by kernel_rfl, by kernel_rfl⟩ (ab ⟨Tryz.func37, by kernel_rfl, by kernel_rfl⟩ (ab ⟨Tryz.func38, by kernel_rfl, by kernel_rfl⟩ (ab ⟨Tryz.func39, by kernel_rfl, by kernel_rfl⟩ (ab ⟨Tryz.func40, by kernel_rfl, by kernel_rfl⟩ (ab ⟨Tryz.func41, by kernel_rfl, by kernel_rfl⟩ (ab ⟨Tryz.func42, by kernel_rfl, by kernel_rfl⟩ (ab ⟨Tryz.func43, by kernel_rfl, by kernel_rfl⟩ (ab ⟨Tryz.func44, by kernel_rfl, by kernel_rfl⟩ (ab ⟨Tryz.func45, by kernel_rfl, by kernel_rfl⟩ (ab ⟨Tryz.func46, by kernel_rfl, by kernel_rfl⟩ (ab ⟨Tryz.func47, by kernel_rfl, by kernel_rfl⟩ (ab ⟨Tryz.func48, by kernel_rfl, by kernel_rfl⟩ (ab ⟨Tryz.func49, by kernel_rfl, by kernel_rfl⟩ (ab ⟨Tryz.func50, by kernel_rfl, by kernel_rfl⟩ (ab ⟨Tryz.func51, by kernel_rfl, by kernel_rfl⟩ (ab ⟨Tryz.func52, by kernel_rfl, by kernel_rfl⟩ (ab ⟨Tryz.func53, by kernel_rfl, by kernel_rfl⟩ (ab ⟨Tryz.func54, by kernel_rfl, by kernel_rfl⟩ (ab ⟨Tryz.func55, by kernel_rfl, by kernel_rfl⟩ (ab ⟨Tryz.func56, by kernel_rfl, by kernel_rfl⟩ (ab ⟨Tryz.func57, by kernel_rfl, by kernel_rfl⟩ (ab ⟨Tryz.func58, by kernel_rfl, by kernel_rfl⟩ (ab ⟨Tryz.func59, by kernel_rfl, by kernel_rfl⟩ (ab ⟨Tryz.func60, by kernel_rfl, by kernel_rfl⟩ (ab ⟨Tryz.func61, by kernel_rfl, by kernel_rfl⟩ (ab ⟨Tryz.func62, by kernel_rfl, by kernel_rfl⟩ (ab ⟨Tryz.func63, by kernel_rfl, by kernel_rfl⟩ (ab ⟨Tryz.func64, by kernel_rfl, by kernel_rfl⟩ (ab ⟨Tryz.func65, by kernel_rfl, by kernel_rfl⟩ (ab ⟨Tryz.func66, by kernel_rfl, by kernel_rfl⟩ (ab ⟨Tryz.func67, by kernel_rfl, by kernel_rfl⟩ (ab ⟨Tryz.func68, by kernel_rfl, by kernel_rfl⟩ (ab ⟨Tryz.func69, by kernel_rfl, by kernel_rfl⟩ (ab ⟨Tryz.func70, by kernel_rfl, by kernel_rfl⟩ (ab ⟨Tryz.func71, by kernel_rfl, by kernel_rfl⟩ (ab ⟨Tryz.func72, by kernel_rfl, by kernel_rfl⟩ (ab ⟨Tryz.func73, by kernel_rfl, by kernel_rfl⟩ (ab ⟨Tryz.func74, by kernel_rfl, by kernel_rfl⟩ (ab ⟨Tryz.func75, by kernel_rfl, by kernel_rfl⟩ (ab ⟨Tryz.func76, by kernel_rfl, by kernel_rfl⟩ (ab ⟨Tryz.func77, by kernel_rfl, by kernel_rfl⟩ (ab ⟨Tryz.func78, by kernel_rfl, by kernel_rfl⟩ (ab ⟨Tryz.func79, by kernel_rfl, by kernel_rfl⟩ (ab ⟨Tryz.func80, by kernel_rfl, by kernel_rfl⟩ (ab ⟨Tryz.func81, by kernel_rfl, by kernel_rfl⟩ (ab ⟨Tryz.func82, by kernel_rfl, by kernel_rfl⟩ (ab ⟨Tryz.func83, by kernel_rfl, by kernel_rfl⟩ (ab ⟨Tryz.func84, by kernel_rfl, by kernel_rfl⟩ (ab ⟨Tryz.func85, by kernel_rfl, by kernel_rfl⟩ (ab ⟨Tryz.func86, by kernel_rfl, by kernel_rfl⟩ (ab ⟨Tryz.func87, by kernel_rfl, by kernel_rfl⟩ (ab ⟨Tryz.func88, by kernel_rfl, by kernel_rfl⟩ (ab ⟨Tryz.func89, by kernel_rfl, by kernel_rfl⟩ (ab ⟨Tryz.func90, by kernel_rfl, by kernel_rfl⟩ (ab ⟨Tryz.func91, by kernel_rfl, by kernel_rfl⟩ (ab ⟨Tryz.func92, by kernel_rfl, by kernel_rfl⟩ (ab ⟨Tryz.func93, by kernel_rfl, by kernel_rfl⟩ (ab ⟨Tryz.func94, by kernel_rfl, by kernel_rfl⟩ (ab ⟨Tryz.func95, by kernel_rfl, by kernel_rfl⟩ (ab ⟨Tryz.func96, by kernel_rfl, by kernel_rfl⟩ (ab ⟨Tryz.func97, by kernel_rfl, by kernel_rfl⟩ (ab ⟨Tryz.func98, by kernel_rfl, by kernel_rfl⟩ (ab ⟨Tryz.func99, by kernel_rfl, by kernel_rfl⟩ (ab ⟨Tryz.func100, by kernel_rfl, by kernel_rfl⟩ (ab ⟨Tryz.func101, by kernel_rfl, by kernel_rfl⟩ (ab ⟨Tryz.func102, by kernel_rfl, by kernel_rfl⟩ (ab ⟨Tryz.func103, by kernel_rfl, by kernel_rfl⟩ (ab ⟨Tryz.func104, by kernel_rfl, by kernel_rfl⟩ (ab ⟨Tryz.func105, by kernel_rfl, by kernel_rfl⟩ (ab ⟨Tryz.func106, by kernel_rfl, by kernel_rfl⟩ (ab ⟨Tryz.func107, by kernel_rfl, by kernel_rfl⟩ (ab ⟨Tryz.func108, by kernel_rfl, by kernel_rfl⟩ (ab ⟨Tryz.func109, by kernel_rfl, by kernel_rfl⟩ (ab ⟨Tryz.func110, by kernel_rfl, by kernel_rfl⟩ (ab ⟨Tryz.func111, by kernel_rfl, by kernel_rfl⟩ (ab ⟨Tryz.func112, by kernel_rfl, by kernel_rfl⟩ (ab ⟨Tryz.func113, by kernel_rfl, by kernel_rfl⟩ (ab ⟨Tryz.func114, by kernel_rfl, by kernel_rfl⟩ (ab ⟨Tryz.func115, by kernel_rfl, by kernel_rfl⟩ (ab ⟨Tryz.func116, by kernel_rfl, by kernel_rfl⟩ (ab ⟨Tryz.func117, by kernel_rfl, by kernel_rfl⟩ (ab ⟨Tryz.func118, by kernel_rfl, by kernel_rfl⟩ (ab ⟨Tryz.func119, by kernel_rfl, by kernel_rfl⟩ (ab ⟨Tryz.func120, by kernel_rfl, by kernel_rfl⟩ (ab ⟨Tryz.func121, by kernel_rfl, by kernel_rfl⟩ (ab ⟨Tryz.func122, by kernel_rfl, by kernel_rfl⟩ (ab ⟨Tryz.func123, by kernel_rfl, by kernel_rfl⟩ (ab ⟨Tryz.func124, by kernel_rfl, by kernel_rfl⟩ (ab ⟨Tryz.func125, by kernel_rfl, by kernel_rfl⟩ (ab ⟨Tryz.func126, by kernel_rfl, by kernel_rfl⟩ (ab ⟨Tryz.func127, by kernel_rfl, by kernel_rfl⟩ (ab ⟨Tryz.func128, by kernel_rfl, by kernel_rfl⟩ (ab ⟨Tryz.func129, by kernel_rfl, by kernel_rfl⟩ (ab ⟨Tryz.func130, by kernel_rfl, by kernel_rfl⟩ (ab ⟨Tryz.func131, by kernel_rfl, by kernel_rfl⟩ (ab ⟨Tryz.func132, by kernel_rfl, by kernel_rfl⟩ (ab ⟨Tryz.func133, by kernel_rfl, by kernel_rfl⟩ (ab ⟨Tryz.func134, by kernel_rfl, by kernel_rfl⟩ (ab ⟨Tryz.func136, by kernel_rfl, by kernel_rfl⟩ (ab ⟨Tryz.func137, by kernel_rfl, by kernel_rfl⟩ (ab ⟨Tryz.func138, by kernel_rfl, by kernel_rfl⟩ (ab ⟨Tryz.func139, by kernel_rfl, by kernel_rfl⟩ (ab ⟨Tryz.func140, by kernel_rfl, by kernel_rfl⟩ (ab ⟨Tryz.func141, by kernel_rfl, by kernel_rfl⟩ (ab ⟨Tryz.func142, by kernel_rfl, by kernel_rfl⟩ (ab ⟨Tryz.func145, by kernel_rfl, by kernel_rfl⟩ (ab ⟨Tryz.func146, by kernel_rfl, by kernel_rfl⟩ (ab ⟨Tryz.func148, by kernel_rfl, by kernel_rfl⟩ (ab ⟨Tryz.func149, by kernel_rfl, by kernel_rfl⟩ (ab ⟨Tryz.func150, by kernel_rfl, by kernel_rfl⟩ (ab ⟨Tryz.func151, by kernel_rfl, by kernel_rfl⟩ (ab ⟨Tryz.func152, by kernel_rfl, by kernel_rfl⟩ (ab ⟨Tryz.func153, by kernel_rfl, by kernel_rfl⟩ (ab ⟨Tryz.func154, by kernel_rfl, by kernel_rfl⟩ (ab ⟨Tryz.func155, by kernel_rfl, by kernel_rfl⟩ (ab ⟨Tryz.func157, by kernel_rfl, by kernel_rfl⟩ (ab ⟨Tryz.func158, by kernel_rfl, by kernel_rfl⟩ (ab ⟨Tryz.func159, by kernel_rfl, by kernel_rfl⟩ (ab ⟨Tryz.func160, by kernel_rfl, by kernel_rfl⟩ (ab ⟨Tryz.func161, by kernel_rfl, by kernel_rfl⟩ (ab ⟨Tryz.func162, by kernel_rfl, by kernel_rfl⟩ (ab ⟨Tryz.func164, by kernel_rfl, by kernel_rfl⟩ (ab ⟨Tryz.func165, by kernel_rfl, by kernel_rfl⟩ (ab ⟨Tryz.func166, by kernel_rfl, by kernel_rfl⟩ (sV))))))))))))))))))))))))))))))))))))))))))))))))))))))))))))))))))))))))))))))))))))))))))))))))))))))))))))))))))))))))))))))))))))))))))))))))))))))))))))))
noncomputable def fns:FuncId→Option Func:=fun f=>My.lookup f
theorem Nn:ji Tryz.prog fns:=fun f fn h=>L8 (f,fn) (gD h)
noncomputable def E:Env:=⟨tab,fns,hints,orc⟩
theorem gH {tab:Tab}{t:Nat}{a b:ByteArray}(h:a.size+b.size≤maxStr):vK tab .add t (.string a) (.string b)=some (.string (a++b)):=by show(if a.size+b.size≤maxStr then some (Value.string (a++b))else none)=_;rw[O6 h]
theorem NS {f:FuncId}{xs:List (Sl Unit Unit)}{x:Value}(h:Does E f xs [(false,[.v x])]){w:World}(b:lw.ok w []){ad:List DSl}{a:List Value}(c:ad.map Sl.er=xs)(d:ArgsIn w ad a):
  Calls Tryz.prog f a.toArray w fun e w'=>e = .returned x∧RowKit.Below w.heap.size w w':=Does.plain NB Nn Nx h b c d
end
end Go.Proofs.YtjlkcjlcmaoccaaGreatDoor.Am
