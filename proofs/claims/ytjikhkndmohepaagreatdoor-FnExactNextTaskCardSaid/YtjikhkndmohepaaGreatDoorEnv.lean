/- What the library's functions tell; the seat's types and functions. -/
import Derived.Test.YtjikhkndmohepaaGreatDoorAmc
import Derived.Test.YtjikhkndmohepaaGreatDoorShelf
import Derived.Lib.SplitLaws
import Derived.WalkKit
import Derived.Test.YtjikhkndmohepaaGreatDoorProg
import Derived.KernelRfl
import Derived.RegionTactic
import Derived.ChangeAlike
import Derived.BigRegion
namespace Go.Proofs.YtjikhkndmohepaaGreatDoor.Am
open Go
set_option linter.unusedVariables false
set_option linter.unusedSimpArgs false
section
open Go.Proofs
set_option maxRecDepth 100000
def Uj (w : World) : Prop := (∃ m, w.cell? ⟨0, 0, none⟩ = some (.int .i64 m)) ∧ Lib.TabIs Tryz.prog w "internal/strconv.uint64pow10" .u64 Lib.pow10Tab
theorem LW {w w':World}{b:Nat}(h:w'.heap[b]?=w.heap[b]?)(o:Nat):w'.cell? ⟨b,o,none⟩=w.cell? ⟨b,o,none⟩:=by unfold World.cell?;simp only[h]
theorem SL {P:Program}{name:String}{g:Nat}(h:P.globalNamed name=some g):g<P.globals.size:=by
 unfold Program.globalNamed at h;split at h
 ·rename_i b a;cases h;have:g∈(List.range P.globals.size).filter fun g=>(P.globals[g]?).any (·.name==name):=by rw[a];exact WP g
  exact W0.1 (XN.1 this).1
 ·cases h
theorem Qa {P:Program}{w w':World}(h:∀b,b<P.globals.size→w'.heap[b]?=w.heap[b]?)(name:String):w'.var? P name=w.var? P name:=by
 unfold World.var?;cases q:P.globalNamed name with
 |none=>rfl
 |some g =>have a:g<P.globals.size:=SL q;simp only[V9,h g a]
noncomputable def m8:Base:=⟨Tryz.prog.globals.size,Uj,fun {w w'} h b=>by obtain⟨⟨m,c⟩,a⟩:=b;have d:(0:Nat)<Tryz.prog.globals.size:=X1 (by kernel_rfl);refine⟨⟨m,by rw[LW (h 0 d)];exact c⟩,?_⟩;unfold Lib.TabIs at a ⊢;rw[Qa h];exact a⟩
theorem vH {f:FuncId}{xs:List Value}{rd:List Value→em}{w:World}{X:List Nat}{ad:List DSl}{a:List Value}{us:List (Sl Unit Unit)}{rs:URes}(c:us=xs.map fun x=>.one (.v x))(d:ad.map Sl.er=us)(b:ArgsOk w X ad a)
  {R:em} (i:erR R=rs) (h:Calls Tryz.prog f xs.toArray w fun e w'=>∃v,e = .returned v∧GrewH X w w'∧RetOk w X w' [] [] R v):
  Calls Tryz.prog f a.toArray w fun e w'=>∃v od rd,e = .returned v∧GrewH X w w'∧erR (od++rd)=rs∧OutsOk w' ad a od∧RetOk w X w' (ad.flatMap cT) od rd v:=by
 subst c;obtain⟨j,k,l⟩:=Cn d b;have m:=b.1;subst j;refine h.mono ?_;rintro e w' ⟨v,rfl,g,n⟩;exact⟨v,[],R,rfl,g,i,OutsOk.nil' m l,by rw[k];exact n⟩
theorem Mc (X:List Nat)(w:World)(n:Nat):GrewH X w (w.drewN n):=⟨rfl,rfl,rfl,WU _,fun b h _=>rfl⟩
def EY:List (Sl Unit Unit)→Option URes|[.one (.v (.string s)),.one (.v (.string a))]=>if s.size<4294967281∧1≤a.size then some [(false,[.s .own () 1 ((Lib.splitB a 0 (Lib.countB s a) s).map etS)])]else none|_=>none
def Oy:List (Sl Unit Unit)→Option URes|[.one (.v (.string s)),.one (.v (.string a))]=>if s.size<4294967281 then some [(false,[.v (.string ⟨(Lib.cut s.data.toList a.data.toList).1.toArray⟩)]),(false,[.v (.string ⟨(Lib.cut s.data.toList a.data.toList).2.1.toArray⟩)]),(false,[.v (.bool (Lib.cut s.data.toList a.data.toList).2.2)])]else none|_=>none
def tE:List (Sl Unit Unit)→Option URes|[.one (.v (.string s)),.one (.v (.string p))]=>some [(false,[.v (.string ⟨(Lib.trimPrefix s.data.toList p.data.toList).toArray⟩)]),(false,[.v (.bool (Lib.hasPrefix s.data.toList p.data.toList))])]|_=>none
def IW:List (Sl Unit Unit)→Option URes|[.one (.v (.int .i64 n))]=>if -9223372036854775808≤n∧n≤9223372036854775807 then some [(false,[.v (.string ⟨(Lib.itoa n).toArray⟩)])]else none|_=>none
theorem Jp {us:List (Sl Unit Unit)}{rs:URes}(h:tE us=some rs)(w:World)(X:List Nat)(ad:List DSl)(a:List Value)(f:m8.ok w X)(c:ad.map Sl.er=us)(d:ArgsOk w X ad a):
  Calls Tryz.prog 158 a.toArray w fun e w'=>∃v od rd,e = .returned v∧GrewH X w w'∧erR (od++rd)=rs∧OutsOk w' ad a od∧RetOk w X w' (ad.flatMap cT) od rd v:=by
 unfold tE at h;split at h
 case h_2=>cases h
 rename_i s p;cases h;refine vH (xs:=[.string s,.string p]) (rd:=fun _=>[]) rfl c d (R:=[Value.string _,Value.bool _].map fun x=>(false,[.v x])) rfl ?_;refine(Tryz.strings_CutPrefix s p w).mono ?_;rintro e w' ⟨rfl,rfl⟩;exact⟨_,rfl,(Grew.refl w').x X,RetOk.tuple (fun x b=>by simp at b;rcases b with rfl|rfl<;>rfl) (by simp)⟩
theorem TS {us:List (Sl Unit Unit)}{rs:URes}(h:Oy us=some rs)(w:World)(X:List Nat)(ad:List DSl)(a:List Value)(c:m8.ok w X)(d:ad.map Sl.er=us)(f:ArgsOk w X ad a):
  Calls Tryz.prog 160 a.toArray w fun e w'=>∃v od rd,e = .returned v∧GrewH X w w'∧erR (od++rd)=rs∧OutsOk w' ad a od∧RetOk w X w' (ad.flatMap cT) od rd v:=by
 unfold Oy at h;split at h
 case h_2=>cases h
 rename_i s p;split at h
 case isFalse=>cases h
 rename_i hs;cases h;obtain⟨_,_,⟨m,g⟩,_⟩:=c;refine vH (xs:=[.string s,.string p]) (rd:=fun _=>[]) rfl d f (R:=[Value.string _,Value.string _,Value.bool _].map fun x=>(false,[.v x])) rfl ?_;refine(Tryz.strings_Cut s p m w hs g).mono ?_;rintro e w' ⟨rfl,n,rfl⟩;exact⟨_,rfl,Mc X w n,RetOk.tuple (fun x b=>by simp at b;rcases b with rfl|rfl|rfl<;>rfl) (by simp)⟩
theorem Tr {us:List (Sl Unit Unit)}{rs:URes}(h:IW us=some rs)(w:World)(X:List Nat)(ad:List DSl)(a:List Value)(c:m8.ok w X)(d:ad.map Sl.er=us)(f:ArgsOk w X ad a):
  Calls Tryz.prog 142 a.toArray w fun e w'=>∃v od rd,e = .returned v∧GrewH X w w'∧erR (od++rd)=rs∧OutsOk w' ad a od∧RetOk w X w' (ad.flatMap cT) od rd v:=by
 unfold IW at h;split at h
 case h_2=>cases h
 rename_i n;split at h
 case isFalse=>cases h
 rename_i hs;cases h;obtain⟨_,_,_,g⟩:=c;refine vH (xs:=[.int .i64 n]) (rd:=fun _=>[]) rfl d f (R:=[(false,[.v (.string ⟨(Lib.itoa n).toArray⟩)])]) rfl ?_;refine(Tryz.strconv_Itoa n hs.1 hs.2 w g).mono ?_;rintro e w' ⟨rfl,k,os,rfl⟩;refine⟨_,rfl,⟨rfl,rfl,rfl,by show _≤(w.heap++os).size;simp,fun b hb _=>?_⟩,RetOk.plain rfl⟩;show(w.heap++os)[b]?=_;rw[XQ hb]
theorem SR {us:List (Sl Unit Unit)}{rs:URes}(h:EY us=some rs)(w:World)(X:List Nat)(ad:List DSl)(c:List Value)(d:m8.ok w X)(f:ad.map Sl.er=us)(g:ArgsOk w X ad c):
  Calls Tryz.prog 137 c.toArray w fun e w'=>∃v od rd,e = .returned v∧GrewH X w w'∧erR (od++rd)=rs∧OutsOk w' ad c od∧RetOk w X w' (ad.flatMap cT) od rd v:=by
 unfold EY at h;split at h
 case h_2=>cases h
 rename_i s a;split at h
 case isFalse=>cases h
 rename_i hs;cases h;obtain⟨_,_,⟨m,i⟩,_⟩:=d;have b:(Lib.splitB a 0 (Lib.countB s a) s).length=Lib.countB s a+1:=Lib.splitB_all a hs.2 0 _ s rfl;refine vH (xs:=[.string s,.string a]) (rd:=fun _=>[]) rfl f g (R:=[(false,[.s .own ⟨w.heap.size,0,Lib.countB s a+1,false,none⟩ 1 (bj Value.string (Lib.splitB a 0 (Lib.countB s a) s))])]) (by simp[erR,erL,aC,BC,etS]) ?_;refine(Tryz.strings_Split s a m w hs.1 i hs.2).mono ?_;rintro e w' ⟨rfl,rfl⟩;refine⟨_,rfl,(Grew.alloc w _).x X,?_⟩;have hb:(w.alloc (.cells ((Lib.splitB a 0 (Lib.countB s a) s).map Value.string).toArray 9)).heap[w.heap.size]?=some (.cells ((Lib.splitB a 0 (Lib.countB s a) s).map Value.string).toArray 9):=by show(w.heap.push _)[w.heap.size]?=_;simp
 have:=RetOk.freshRow (w:=w) (X:=X) (l:=Lib.splitB a 0 (Lib.countB s a) s) (cap:=Lib.countB s a+1) Value.string (fun _=>rfl) hb (fun j x k=>by simp[k]) (by omega) (by simp[b]) (fun q _ h=>by omega) (.inl (WU _))
 rwa [b]at this
theorem OT {w:World}{k:Kd}{d:Dec}{l:List Y9}(h:Holds w (.s k d 1 (bj Value.string l)))(g:l≠[]):d.addr=some ⟨d.b,d.o,none⟩∧d.b<w.heap.size∧l.length≤d.cap∧∀(j:Nat) x,l[j]?=some x→w.cell? ⟨d.b,d.o+j,none⟩=some (.string x):=by
 have i:0<l.length:=YJ.2 g;generalize m:bj Value.string l=rows at *;have a:rows.length=l.length:=by rw[←m];simp[bj]
 cases h with
 |e=>simp at a;omega
 |s _ _ _ _ q1 q c e f n z A r B =>
  refine⟨by rw[Dec.addr_none q,q1];rfl,dY n,by omega,fun j x t=>?_⟩;have u:rows[j]?=some [.v (.string x)]:=by rw[←m];unfold bj;rw[Wr,t];rfl
  obtain⟨y,p,hv⟩:=r j _ 0 _ u rfl;have v:d.o+j*1+0=d.o+j:=by omega
  rw[v]at p;unfold World.cell?;simp only[n,Option.isSome_none,WC,W2];rw[p,show y=_ from hv.1]
def IX:List (Sl Unit Unit)→Option URes
 |[.one (.s .far () 1 rows),.one (.v (.string a))]=>(u7 rows).bind fun xs=>if xs.length≤140737488355328∧(Lib.join (xs.map (·.data.toList)) a.data.toList).length≤140737488355328 then some [(false,[.v (.string ⟨(Lib.join (xs.map (·.data.toList)) a.data.toList).toArray⟩)])]else none
 |_=>none
theorem Ts {us:List (Sl Unit Unit)}{rs:URes}(h:IX us=some rs)(w:World)(X:List Nat)(ad:List DSl)(t:List Value)(P:m8.ok w X)(i:ad.map Sl.er=us)(B:ArgsOk w X ad t):
  Calls Tryz.prog 131 t.toArray w fun e w'=>∃v od rd,e = .returned v∧GrewH X w w'∧erR (od++rd)=rs∧OutsOk w' ad t od∧RetOk w X w' (ad.flatMap cT) od rd v:=by
 unfold IX at h;split at h
 case h_2=>cases h
 rename_i rows f;rw[Wb]at h;obtain⟨l,D,h⟩:=h;split at h
 case isFalse=>cases h
 rename_i hs;cases h
 match ad,i,B with
 |[a,b],i,B =>
  simp only[Wv,WM,XE,Yf]at i;obtain⟨d,C,rfl,H⟩:=By i.1;have hb:=Rj i.2;subst hb;rw[←H]at D;have m:=LC D;subst m;obtain⟨j,u,Q⟩:=B
  match t,j,u with
  |[y,z],j,u =>
   have A:=u 0 _ y rfl rfl;have F:y = .slice d.addr (bj Value.string l).length d.cap:=A.val [];have hz:z = .string f:=((u 1 _ z rfl rfl).val []).1;have n:(bj Value.string l).length=l.length:=by simp[bj]
   rw[n]at F;subst F;subst hz;have I:Holds w (.s .far d 1 (bj Value.string l)):=A.mem.1 _ (by simp[aj]);have k:∀(x:Value)(w':World),x.oneCell'=true→Grew w w'→∃v od rd,Ending.returned x = .returned v∧GrewH X w w'∧erR (od++rd)=[(false,[.v x])]∧OutsOk w' [.one (.s .far d 1 (bj Value.string l)),.one (.v (.string f))] [.slice d.addr l.length d.cap,.string f] od∧RetOk w X w' ([(.one (.s .far d 1 (bj Value.string l)):DSl),.one (.v (.string f))].flatMap cT) od rd v :=
    fun x w' J g=>⟨x,[],[(false,[.v x])],rfl,g.x X,rfl,OutsOk.nil' rfl (fun s hs=>by simp at hs;rcases hs with rfl|rfl<;>rfl),RetOk.plain J⟩
   by_cases p:l=[]
   ·subst p;refine(Tryz.strings_Join_none d.addr d.cap f w).mono ?_;rintro e w' ⟨rfl,rfl⟩;exact k _ _ rfl (Grew.refl _)
   ·obtain⟨G,K,L,M⟩:=OT I p;rw[G];rw[G]at k;refine(Tryz.strings_Join d.b d.o d.cap l f w M K hs.1 L hs.2).mono ?_;rintro e w' ⟨rfl,g1,N,g3,g4,O⟩;exact k _ _ rfl ⟨g1,N,g3,g4,O⟩
  |[],j,_=>cases j
  |[y],j,_=>simp at j
  |y::z::q::r,j,_=>simp at j
 |[],i,_=>simp at i
 |[a],i,_=>simp at i
 |a::b::c::r,i,_=>simp at i
def I5:List (Sl Unit Unit)→Option URes|[.one (.s .own () 1 rows)]=>(mO rows).bind fun l=>if l.length<4611686018427387904 then some [(false,[.s .own () 1 ((l.mergeSort fun x y=>decide (x≤y)).map etI)])]else none|_=>none
theorem OS {w:World}(os:Array Obj):Grew w (Go.Sort.grow w os):=⟨rfl,rfl,rfl,by show _≤(w.heap++os).size;simp,fun b hb=>by show(w.heap++os)[b]?=_;rw[XQ hb]⟩
theorem RetOk.unit {w w':World}{X:List Nat}{d:Dec}{rows:List (List DT)}(f:Holds w' (.s .own d 1 rows))(g:OwnT w' (.s .own d 1 rows))(hf:(T.s .own d 1 rows:DT).fine=true)(e:bl (.s .own d 1 rows)=[]∨bl (.s .own d 1 rows)=[d.b])(j:∀b∈bl (.s .own d 1 rows),(w.heap.size≤b∨b∈X)∧b<w'.heap.size):
  RetOk w X w' [] [(false,[.s .own d 1 rows])] [] (.tuple #[]) where
 val := .inr (.inl ⟨by decide, #[],rfl,rfl,fun i r v h=>by simp at h⟩)
 fine:=fun r a t c=>by rw[WG,Wk]at a;subst a;rw[Wk]at c;subst c;exact hf
 holds:=fun r a t c=>by rw[WG,Wk]at a;subst a;rw[Wk]at c;subst c;exact f
 own:=fun r a t c _=>by rw[WG,Wk]at a;subst a;rw[Wk]at c;subst c;exact g
 once:=fun b=>by
  have:bA ([(false,[(.s .own d 1 rows:DT)])]++[])=bl (.s .own d 1 rows):=by simp[bA,ownR,T.isOwn]
  rw[this];rcases e with h|h<;>rw[h]<;>simp[Xn]
  split<;>omega
 new:=fun b hb=>by
  have:bA ([(false,[(.s .own d 1 rows:DT)])]++[])=bl (.s .own d 1 rows):=by simp[bA,ownR,T.isOwn]
  rw[this]at hb;exact j b hb
theorem TH {us:List (Sl Unit Unit)}{rs:URes}(h:I5 us=some rs)(w:World)(X:List Nat)(ad:List DSl)(s:List Value)(U:m8.ok w X)(f:ad.map Sl.er=us)(t:ArgsOk w X ad s):
  Calls Tryz.prog 117 s.toArray w fun e w'=>∃v od rd,e = .returned v∧GrewH X w w'∧erR (od++rd)=rs∧OutsOk w' ad s od∧RetOk w X w' (ad.flatMap cT) od rd v:=by
 unfold I5 at h;split at h
 case h_2=>cases h
 rename_i rows;rw[Wb]at h;obtain⟨l,G,h⟩:=h;split at h
 case isFalse=>cases h
 rename_i hs;cases h
 match ad,f,t with
 |[a],f,t =>
  simp only[Wv,WM,XE,Yf]at f;obtain⟨d,u,rfl,P⟩:=By f;rw[←P]at G;have p:=yc G;subst p;obtain⟨m,B,V⟩:=t
  match s,m,B with
  |[y],m,B =>
   have A:=B 0 _ y rfl rfl;have q:(bj (Value.int .i64) l).length=l.length:=by simp[bj]
   have H:y = .slice d.addr (bj (Value.int .i64) l).length d.cap:=A.val [];rw[q]at H;subst H;have C:Holds w (.s .own d 1 (bj (Value.int .i64) l)):=A.mem.1 _ (by simp[aj]);have D:OwnT w (.s .own d 1 (bj (Value.int .i64) l)):=A.mem.2.1 _ (by simp[rootsO]) rfl;have c:∀b∈bl (.s .own d 1 (bj (Value.int .i64) l)),b∈X∧b<w.heap.size:=fun b hb=>A.own b (by simpa[ownBl,ownR,T.isOwn]using hb)
   by_cases i:l=[]
   ·subst i;refine(Tryz.slices_Sort_int_none d.addr d.cap w).mono ?_;rintro e w' ⟨rfl,rfl⟩;refine⟨_,[(false,[.s .own d 1 []])],[],rfl,(Grew.refl _).x X,by simp[erR,erL,aC],⟨_,[],rfl,⟨⟨_,rfl,rfl⟩,rfl⟩,rfl⟩,RetOk.unit C D rfl ?_ fun b hb=>⟨.inr (c b hb).1,(c b hb).2⟩⟩;rw[cJ];cases d.nil<;>simp
   ·obtain⟨Q,I,W,J,R⟩:=FK (Value.int .i64) i C D;have j:∀l',bl (.s .own d 1 (bj (Value.int .i64) l'))=[d.b]:=fun l'=>Jg _ _ R _
    have K:d.b∈X:=(c d.b (by rw[j];simp)).1;rw[J];refine(Tryz.slices_Sort_int d.b d.o d.cap l w Q I hs).mono ?_;rintro e w' ⟨rfl,n,os,rfl⟩;have F:(l.mergeSort fun x y=>decide (x≤y)).length=l.length:=List.length_mergeSort l;obtain⟨L,M,k⟩:=NZ (Value.int .i64) (fun _=>rfl) i C D n F (List.prefix_refl _);generalize Go.Sort.putRow (Value.int .i64) (Go.Sort.ahead w n) d.b d.o (l.mergeSort fun x y=>decide (x≤y)).toArray=N at L M k;have g:=OS (w:=N) os;have O:GrewH X w (Go.Sort.grow N os):=⟨by rw[g.os,k.os],by rw[g.tape,k.tape],by rw[g.output,k.output],W6 k.size g.size,fun b hb S=>by rw[g.same b (WQ hb k.size),k.same b hb (by simp;rintro rfl;exact S K)]⟩
    refine⟨_,[(false,[.s .own d 1 (bj (Value.int .i64) (l.mergeSort fun x y=>decide (x≤y)))])],[],rfl,O,?_,⟨_,[],rfl,⟨⟨_,rfl,?_⟩,rfl⟩,rfl⟩,RetOk.unit (L.frame fun b _ hb=>g.same b hb) (M.frame fun b _ hb=>g.same b hb) rfl (.inr (j _)) fun b hb=>?_⟩
    ·simp[erR,erL,aC,BC,etI]
    ·show _=Value.slice d.addr _ _;rw[J];simp[bj]
    ·rw[j,Wk]at hb;subst hb;exact⟨.inr K,WQ I O.size⟩
  |[],m,_=>cases m
  |y::z::r,m,_=>simp at m
 |[],f,_=>simp at f
 |a::b::r,f,_=>simp at f
theorem RetOk.used {w w':World}{X:List Nat}{d:Dec}{rows:List (List DT)}{v:Value}(hv:VT (.s .own d 1 rows) v)(f:Holds w' (.s .own d 1 rows))(g:OwnT w' (.s .own d 1 rows))(hf:(T.s .own d 1 rows:DT).fine=true)(e:bl (.s .own d 1 rows)=[]∨bl (.s .own d 1 rows)=[d.b])(i:∀b∈bl (.s .own d 1 rows),(w.heap.size≤b∨b∈X)∧b<w'.heap.size):
  RetOk w X w' [] [(false,[.any])] [(false,[.s .own d 1 rows])] v where
 val := .inl ⟨_,rfl,by simp only[VPart,WC,W2];exact⟨_,rfl,hv⟩⟩
 fine:=fun r c t a=>by
  simp only[XF,WE,XR,Yx]at c;rcases c with rfl|rfl
  ·rw[Wk]at a;subst a;rfl
  ·rw[Wk]at a;subst a;exact hf
 holds:=fun r c t a=>by
  simp only[XF,WE,XR,Yx]at c;rcases c with rfl|rfl
  ·rw[Wk]at a;subst a;exact .any
  ·rw[Wk]at a;subst a;exact f
 own:=fun r c t a j=>by
  simp only[XF,WE,XR,Yx]at c;rcases c with rfl|rfl
  ·rw[Wk]at a;subst a;cases j
  ·rw[Wk]at a;subst a;exact g
 once:=fun b=>by
  have:bA ([(false,[(.any:DT)])]++[(false,[(.s .own d 1 rows:DT)])])=bl (.s .own d 1 rows):=by simp[bA,ownR,T.isOwn]
  rw[this];rcases e with h|h<;>rw[h]<;>simp[Xn]
  split<;>omega
 new:=fun b hb=>by
  have:bA ([(false,[(.any:DT)])]++[(false,[(.s .own d 1 rows:DT)])])=bl (.s .own d 1 rows):=by simp[bA,ownR,T.isOwn]
  rw[this]at hb;exact i b hb
def xM:List (Sl Unit Unit)→Option URes|[.one (.s .own () 1 rows)]=>(mO rows).bind fun l=>if l.length≤9223372036854775807 then some [(false,[.any]),(false,[.s .own () 1 ((Lib.compact l).map etI)])]else none|_=>none
theorem Sb (a:Option Addr)(n c:Nat)(h:n≤c)(w:World):Calls Tryz.prog 140 #[.slice a n c] w fun e w'=>e = .returned (.slice a n n)∧w'=w:=by
 go_enter Tryz.func140,Tryz.ntmps140
 go_wp2
 all_goals (go_ret;exact⟨rfl,rfl⟩)
theorem LX (l:List Int):(Lib.compact l).length≤l.length:=Lib.compact_length_le l
theorem Ox {us:List (Sl Unit Unit)}{rs:URes}(h:xM us=some rs)(w:World)(X:List Nat)(ad:List DSl)(q:List Value)(S:m8.ok w X)(f:ad.map Sl.er=us)(s:ArgsOk w X ad q):
  Calls Tryz.prog 141 q.toArray w fun e w'=>∃v od rd,e = .returned v∧GrewH X w w'∧erR (od++rd)=rs∧OutsOk w' ad q od∧RetOk w X w' (ad.flatMap cT) od rd v:=by
 unfold xM at h;split at h
 case h_2=>cases h
 rename_i rows;rw[Wb]at h;obtain⟨l,D,h⟩:=h;split at h
 case isFalse=>cases h
 rename_i hs;cases h
 match ad,f,s with
 |[a],f,s =>
  simp only[Wv,WM,XE,Yf]at f;obtain⟨d,t,rfl,L⟩:=By f;rw[←L]at D;have m:=yc D;subst m;obtain⟨j,u,U⟩:=s
  match q,j,u with
  |[y],j,u =>
   have A:=u 0 _ y rfl rfl;have p:(bj (Value.int .i64) l).length=l.length:=by simp[bj]
   have F:y = .slice d.addr (bj (Value.int .i64) l).length d.cap:=A.val [];rw[p]at F;subst F;have x:Holds w (.s .own d 1 (bj (Value.int .i64) l)):=A.mem.1 _ (by simp[aj]);have B:OwnT w (.s .own d 1 (bj (Value.int .i64) l)):=A.mem.2.1 _ (by simp[rootsO]) rfl;have c:∀b∈bl (.s .own d 1 (bj (Value.int .i64) l)),b∈X∧b<w.heap.size:=fun b hb=>A.own b (by simpa[ownBl,ownR,T.isOwn]using hb)
   by_cases g:l=[]
   ·subst g;refine(Tryz.slices_Compact_int_empty d.addr d.cap w).mono ?_;rintro e w' ⟨rfl,rfl⟩;refine⟨_,[(false,[.any])],[(false,[.s .own d 1 []])],rfl,(Grew.refl _).x X,by simp[erR,erL,aC,Lib.compact,Lib.compactUpTo];rfl,⟨_,[],rfl,⟨⟨_,rfl,rfl⟩,rfl⟩,rfl⟩,RetOk.used rfl x B rfl ?_ fun b hb=>⟨.inr (c b hb).1,(c b hb).2⟩⟩;rw[cJ];cases d.nil<;>simp
   ·obtain⟨M,N,O,G,P⟩:=FK (Value.int .i64) g x B;have i:∀l',bl (.s .own d 1 (bj (Value.int .i64) l'))=[d.b]:=fun l'=>Jg _ _ P _
    have H:d.b∈X:=(c d.b (by rw[i];simp)).1;rw[G];refine(Tryz.slices_Compact_int d.b d.o d.cap l w M hs O).mono ?_;rintro e w' ⟨rfl,n,rfl⟩;have C:(Lib.compact l++List.replicate (l.length-(Lib.compact l).length) 0).length=l.length:=by have:=LX l;simp;omega
    obtain⟨I,J,k⟩:=NZ (Value.int .i64) (fun _=>rfl) g x B n C (l2:=Lib.compact l) (List.prefix_append _ _);generalize Go.Sort.putRow (Value.int .i64) (Go.Sort.ahead w n) d.b d.o (Lib.compact l++List.replicate (l.length-(Lib.compact l).length) 0).toArray=Q at I J k;have K:GrewH X w Q:=⟨k.os,k.tape,k.output,k.size,fun b hb R=>k.same b hb (by simp;rintro rfl;exact R H)⟩
    refine⟨_,[(false,[.any])],[(false,[.s .own d 1 (bj (Value.int .i64) (Lib.compact l))])],rfl,K,?_,⟨_,[],rfl,⟨⟨_,rfl,rfl⟩,rfl⟩,rfl⟩,RetOk.used ?_ I J rfl (.inr (i _)) fun b hb=>?_⟩
    ·simp[erR,erL,aC,BC,etI];rfl
    ·show _=Value.slice d.addr _ _;rw[G];simp[bj]
    ·rw[i,Wk]at hb;subst hb;exact⟨.inr H,WQ N K.size⟩
  |[],j,_=>cases j
  |y::z::r,j,_=>simp at j
 |[],f,_=>simp at f
 |a::b::r,f,_=>simp at f
def IQ:List (Sl Unit Unit)→Option URes|[.one (.s .own () 1 rows)]=>(mO rows).bind fun l=>some [(false,[.any]),(false,[.s .own () 1 (l.map etI)])]|_=>none
theorem Sa {w:World}{d:Dec}{l:List Int}(i:Holds w (.s .own d 1 (bj (Value.int .i64) l)))(j:OwnT w (.s .own d 1 (bj (Value.int .i64) l))):l.length≤d.cap∧Holds w (.s .own { d with cap:=l.length } 1 (bj (Value.int .i64) l))∧OwnT w (.s .own { d with cap:=l.length } 1 (bj (Value.int .i64) l)):=by
 generalize k:bj (Value.int .i64) l=rows at *;have a:rows.length=l.length:=by rw[←k];simp[bj]
 cases j with
 |nil _ _ b g h =>
  have m:l.length=0:=by rw[←a];rfl
  exact⟨by omega,.e _ _ _,.nil _ _ b g m⟩
 |s _ _ _ b g n o lo hi h C p q r =>
  refine⟨by omega,?_,.s _ _ _ b g n o lo hi h (by simp;omega) (by simp at p ⊢;omega) (fun x t u=>q x t (by simp at u ⊢;omega)) r⟩;cases i with
  |e=>exact .e _ _ _
  |s _ _ _ _ q1 v c e f y D z A B=>exact .s _ _ _ _ q1 v c e f y (by simp;omega) z A B
theorem Tf {us:List (Sl Unit Unit)}{rs:URes}(h:IQ us=some rs)(w:World)(X:List Nat)(ad:List DSl)(k:List Value)(F:m8.ok w X)(c:ad.map Sl.er=us)(m:ArgsOk w X ad k):
  Calls Tryz.prog 140 k.toArray w fun e w'=>∃v od rd,e = .returned v∧GrewH X w w'∧erR (od++rd)=rs∧OutsOk w' ad k od∧RetOk w X w' (ad.flatMap cT) od rd v:=by
 unfold IQ at h;split at h
 case h_2=>cases h
 rename_i rows;rw[Wb]at h;obtain⟨l,q,h⟩:=h;cases h
 match ad,c,m with
 |[a],c,m =>
  simp only[Wv,WM,XE,Yf]at c;obtain⟨d,n,rfl,t⟩:=By c;rw[←t]at q;have j:=yc q;subst j;obtain⟨i,o,G⟩:=m
  match k,i,o with
  |[y],i,o =>
   have A:=o 0 _ y rfl rfl;have f:(bj (Value.int .i64) l).length=l.length:=by simp[bj]
   have s:y = .slice d.addr (bj (Value.int .i64) l).length d.cap:=A.val [];rw[f]at s;subst s;have u:Holds w (.s .own d 1 (bj (Value.int .i64) l)):=A.mem.1 _ (by simp[aj]);have x:OwnT w (.s .own d 1 (bj (Value.int .i64) l)):=A.mem.2.1 _ (by simp[rootsO]) rfl;have g:∀b∈bl (.s .own d 1 (bj (Value.int .i64) l)),b∈X∧b<w.heap.size:=fun b hb=>A.own b (by simpa[ownBl,ownR,T.isOwn]using hb)
   obtain⟨B,C,D⟩:=Sa u x;have p:bl (.s .own { d with cap:=l.length } 1 (bj (Value.int .i64) l))=bl (.s .own d 1 (bj (Value.int .i64) l)):=by rw[cJ,cJ]
   refine(Sb d.addr l.length d.cap B w).mono ?_;rintro e w' ⟨rfl,rfl⟩;refine⟨_,[(false,[.any])],[(false,[.s .own { d with cap:=l.length } 1 (bj (Value.int .i64) l)])],rfl,(Grew.refl _).x X,?_,⟨_,[],rfl,⟨⟨_,rfl,rfl⟩,rfl⟩,rfl⟩,RetOk.used ?_ C D rfl ?_ fun b hb=>?_⟩
   ·simp[erR,erL,aC,BC,etI];rfl
   ·show _=Value.slice _ _ _;rw[f];rfl
   ·rw[cJ,He];cases d.nil<;>simp
   ·rw[p]at hb;exact⟨.inr (g b hb).1,(g b hb).2⟩
  |[],i,_=>cases i
  |y::z::r,i,_=>simp at i
 |[],c,_=>simp at c
 |a::b::r,c,_=>simp at c
def orc (_:Sem1):Sem1:=fun f us=>match f with
 | 131=>IX us
 | 137=>EY us
 | 117=>I5 us
 | 140=>IQ us
 | 141=>xM us
 | 142=>IW us
 | 158=>tE us
 | 160=>Oy us
 |_=>none
theorem T8:∀C,CallsOk Tryz.prog m8 C→CallsOk Tryz.prog m8 (orc C):=by
 intro C _ f us rs h w X ad a b c d;unfold orc at h;split at h
 ·exact Ts h w X ad a b c d
 ·exact SR h w X ad a b c d
 ·exact TH h w X ad a b c d
 ·exact Tf h w X ad a b c d
 ·exact Ox h w X ad a b c d
 ·exact Tr h w X ad a b c d
 ·exact Jp h w X ad a b c d
 ·exact TS h w X ad a b c d
 ·cases h
end
section
open Go.Proofs
set_option maxRecDepth 100000
set_option maxHeartbeats 4000000 in
theorem Oq:I7 Tryz.prog 126 [0,1,2,3,4]:=fun b w=>by
 go_enter Tryz.func126,Tryz.ntmps126
 go_wp2
 go_region
 go_wp2
 refine bodyPost_ret (v := .agg #[.pointer (some ⟨b.1,b.2,none⟩),.pointer (some ⟨b.1,b.2+1,none⟩),.pointer (some ⟨b.1,b.2+2,none⟩),.pointer (some ⟨b.1,b.2+3,none⟩),.pointer (some ⟨b.1,b.2+4,none⟩)]) (by simp[results,Tryz.results126,go_sem]) rfl ⟨rfl,(Grew.alloc _ _).trans (Grew.drew _)⟩
end
section
open Go.Proofs
set_option maxRecDepth 100000
def tab:Tab where
 ts:=[(2,⟨1,8,[tI (0:Int)],.int .i64⟩),
  (3,⟨1,8,[tI (0:Int)],.int .i64⟩),
  (4,⟨1,1,[tB false],.bool⟩),
  (5,⟨1,1,[tY (0:Int)],.int .u8⟩),
  (6,⟨1,1,[tY (0:Int)],.int .u8⟩),
  (7,⟨4,24,[tI (0:Int),tI (0:Int),tB false,tY (0:Int)],.struct [0,1,2,3]⟩),
  (8,⟨4,24,[tI (0:Int),tI (0:Int),tB false,tY (0:Int)],.struct [0,1,2,3]⟩),
  (9,⟨1,16,[tS ByteArray.empty],.str⟩),
  (10,⟨1,16,[tS ByteArray.empty],.str⟩),
  (11,⟨1,16,[tS ByteArray.empty],.str⟩),
  (12,⟨1,8,[.v (.int .u64 0)],.int .u64⟩),
  (13,⟨2,24,[tS ByteArray.empty,.v (.int .u64 0)],.struct [0,1]⟩),
  (14,⟨2,24,[tS ByteArray.empty,.v (.int .u64 0)],.struct [0,1]⟩),
  (21,⟨1,4,[.v (.int .i32 0)],.int .i32⟩),
  (22,⟨1,24,[.s .own () 3 []],.slice 57⟩),
  (23,⟨1,24,[.s .own () 9 []],.slice 63⟩),
  (24,⟨1,24,[.s .own () 5 []],.slice 68⟩),
  (25,⟨5,88,[.s .own () 3 [],.s .own () 9 [],.s .own () 5 [],tI (0:Int),tI (0:Int)],.struct [0,1,2,3,4]⟩),
  (26,⟨5,88,[.s .own () 3 [],.s .own () 9 [],.s .own () 5 [],tI (0:Int),tI (0:Int)],.struct [0,1,2,3,4]⟩),
  (30,⟨1,24,[.s .own () 3 []],.slice 85⟩),
  (31,⟨1,24,[.s .own () 9 []],.slice 76⟩),
  (32,⟨1,24,[.s .own () 5 []],.slice 49⟩),
  (33,⟨5,88,[.s .own () 3 [],.s .own () 9 [],.s .own () 5 [],tI (0:Int),tI (0:Int)],.struct [0,1,2,3,4]⟩),
  (34,⟨5,88,[.s .own () 3 [],.s .own () 9 [],.s .own () 5 [],tI (0:Int),tI (0:Int)],.struct [0,1,2,3,4]⟩),
  (45,⟨2,16,[tI (0:Int),tI (0:Int)],.struct [0,1]⟩),
  (46,⟨2,16,[tI (0:Int),tI (0:Int)],.struct [0,1]⟩),
  (47,⟨1,24,[.s .own () 4 []],.slice 100⟩),
  (48,⟨5,64,[tS ByteArray.empty,tI (0:Int),tI (0:Int),tI (0:Int),.s .own () 4 []],.struct [0,1,3,4]⟩),
  (49,⟨5,64,[tS ByteArray.empty,tI (0:Int),tI (0:Int),tI (0:Int),.s .own () 4 []],.struct [0,1,3,4]⟩),
  (56,⟨3,32,[tI (0:Int),tI (0:Int),tS ByteArray.empty],.struct [0,1,2]⟩),
  (57,⟨3,32,[tI (0:Int),tI (0:Int),tS ByteArray.empty],.struct [0,1,2]⟩),
  (59,⟨1,24,[.s .own () 5 []],.slice 144⟩),
  (60,⟨6,80,[tS ByteArray.empty,tS ByteArray.empty,tI (0:Int),tI (0:Int),tB false,.s .own () 5 []],.struct [0,1,2,3,4,5]⟩),
  (61,⟨6,80,[tS ByteArray.empty,tS ByteArray.empty,tI (0:Int),tI (0:Int),tB false,.s .own () 5 []],.struct [0,1,2,3,4,5]⟩),
  (62,⟨9,104,[tS ByteArray.empty,tS ByteArray.empty,tI (0:Int),tI (0:Int),tB false,.s .own () 5 [],tB false,tI (0:Int),tI (0:Int)],.struct [0,6,7,8]⟩),
  (63,⟨9,104,[tS ByteArray.empty,tS ByteArray.empty,tI (0:Int),tI (0:Int),tB false,.s .own () 5 [],tB false,tI (0:Int),tI (0:Int)],.struct [0,6,7,8]⟩),
  (65,⟨2,16,[tI (0:Int),tI (0:Int)],.struct [0,1]⟩),
  (66,⟨1,24,[.s .own () 4 []],.slice 134⟩),
  (67,⟨5,64,[tS ByteArray.empty,tI (0:Int),tI (0:Int),tI (0:Int),.s .own () 4 []],.struct [0,1,3,4]⟩),
  (68,⟨5,64,[tS ByteArray.empty,tI (0:Int),tI (0:Int),tI (0:Int),.s .own () 4 []],.struct [0,1,3,4]⟩),
  (72,⟨1,24,[.s .own () 5 []],.slice 81⟩),
  (73,⟨6,80,[tS ByteArray.empty,tS ByteArray.empty,tI (0:Int),tI (0:Int),tB false,.s .own () 5 []],.struct [0,1,2,3,4,5]⟩),
  (74,⟨6,80,[tS ByteArray.empty,tS ByteArray.empty,tI (0:Int),tI (0:Int),tB false,.s .own () 5 []],.struct [0,1,2,3,4,5]⟩),
  (75,⟨9,104,[tS ByteArray.empty,tS ByteArray.empty,tI (0:Int),tI (0:Int),tB false,.s .own () 5 [],tB false,tI (0:Int),tI (0:Int)],.struct [0,6,7,8]⟩),
  (76,⟨9,104,[tS ByteArray.empty,tS ByteArray.empty,tI (0:Int),tI (0:Int),tB false,.s .own () 5 [],tB false,tI (0:Int),tI (0:Int)],.struct [0,6,7,8]⟩),
  (77,⟨1,24,[.s .own () 1 []],.slice 3⟩),
  (79,⟨1,24,[.s .own () 1 []],.slice 9⟩),
  (80,⟨5,72,[tS ByteArray.empty,tS ByteArray.empty,tI (0:Int),tB false,.s .own () 1 []],.struct [0,1,2,3,4]⟩),
  (81,⟨5,72,[tS ByteArray.empty,tS ByteArray.empty,tI (0:Int),tB false,.s .own () 1 []],.struct [0,1,2,3,4]⟩),
  (85,⟨3,32,[tI (0:Int),tI (0:Int),tS ByteArray.empty],.struct [0,1,2]⟩),
  (99,⟨4,32,[tI (0:Int),tI (0:Int),tI (0:Int),tI (0:Int)],.struct [0,1,2,3]⟩),
  (100,⟨4,32,[tI (0:Int),tI (0:Int),tI (0:Int),tI (0:Int)],.struct [0,1,2,3]⟩),
  (122,⟨5,120,[.s .own () 1 [],.s .own () 1 [],.s .own () 1 [],.s .own () 1 [],.s .own () 1 []],.struct [0,1,2,3,4]⟩),
  (123,⟨5,120,[.s .own () 1 [],.s .own () 1 [],.s .own () 1 [],.s .own () 1 [],.s .own () 1 []],.struct [0,1,2,3,4]⟩),
  (134,⟨4,32,[tI (0:Int),tI (0:Int),tI (0:Int),tI (0:Int)],.struct [0,1,2,3]⟩),
  (144,⟨5,72,[tS ByteArray.empty,tS ByteArray.empty,tI (0:Int),tB false,.s .own () 1 []],.struct [0,1,2,3,4]⟩),
  (147,⟨1,24,[.s .own () 1 []],.slice 4⟩),
  (169,⟨1,8,[.v (.int .u64 0)],.int .u64⟩),
  (173,⟨1,24,[.s .own () 1 []],.slice 5⟩),
  (189,⟨1,8,[tI (0:Int)],.int .i64⟩),
  (196,⟨1,4,[.v (.int .u32 0)],.int .u32⟩),
  (198,⟨1,8,[.v (.int .u64 0)],.int .u64⟩),
  (204,⟨1,8,[.v (.int .u64 0)],.int .u64⟩),
  (230,⟨2,2,[tY (0:Int),tY (0:Int)],.struct [0,1]⟩),
  (231,⟨2,2,[tY (0:Int),tY (0:Int)],.struct [0,1]⟩),
  (243,⟨1,1,[tY (0:Int)],.int .u8⟩),
  (244,⟨1,1,[tY (0:Int)],.int .u8⟩),
  (246,⟨1,4,[.v (.int .i32 0)],.int .i32⟩),
  (247,⟨1,4,[.v (.int .i32 0)],.int .i32⟩)]
 eqs:=[(45,[(0,3),(1,3)]),
  (46,[(0,3),(1,3)]),
  (56,[(0,3),(1,3),(2,9)]),
  (57,[(0,3),(1,3),(2,9)]),
  (65,[(0,3),(1,3)]),
  (85,[(0,3),(1,3),(2,9)]),
  (99,[(0,3),(1,3),(2,3),(3,3)]),
  (100,[(0,3),(1,3),(2,3),(3,3)]),
  (134,[(0,3),(1,3),(2,3),(3,3)]),
  (230,[(0,5),(1,5)]),
  (231,[(0,5),(1,5)])]
 pls:=[(7,[(0,1),(1,1),(2,1),(3,1)]),
  (8,[(0,1),(1,1),(2,1),(3,1)]),
  (13,[(0,1),(1,1)]),
  (14,[(0,1),(1,1)]),
  (25,[(0,1),(1,1),(2,1),(3,1),(4,1)]),
  (26,[(0,1),(1,1),(2,1),(3,1),(4,1)]),
  (33,[(0,1),(1,1),(2,1),(3,1),(4,1)]),
  (34,[(0,1),(1,1),(2,1),(3,1),(4,1)]),
  (45,[(0,1),(1,1)]),
  (46,[(0,1),(1,1)]),
  (48,[(0,1),(1,2),(3,1),(4,1)]),
  (49,[(0,1),(1,2),(3,1),(4,1)]),
  (56,[(0,1),(1,1),(2,1)]),
  (57,[(0,1),(1,1),(2,1)]),
  (60,[(0,1),(1,1),(2,1),(3,1),(4,1),(5,1)]),
  (61,[(0,1),(1,1),(2,1),(3,1),(4,1),(5,1)]),
  (62,[(0,6),(6,1),(7,1),(8,1)]),
  (63,[(0,6),(6,1),(7,1),(8,1)]),
  (65,[(0,1),(1,1)]),
  (67,[(0,1),(1,2),(3,1),(4,1)]),
  (68,[(0,1),(1,2),(3,1),(4,1)]),
  (73,[(0,1),(1,1),(2,1),(3,1),(4,1),(5,1)]),
  (74,[(0,1),(1,1),(2,1),(3,1),(4,1),(5,1)]),
  (75,[(0,6),(6,1),(7,1),(8,1)]),
  (76,[(0,6),(6,1),(7,1),(8,1)]),
  (80,[(0,1),(1,1),(2,1),(3,1),(4,1)]),
  (81,[(0,1),(1,1),(2,1),(3,1),(4,1)]),
  (85,[(0,1),(1,1),(2,1)]),
  (99,[(0,1),(1,1),(2,1),(3,1)]),
  (100,[(0,1),(1,1),(2,1),(3,1)]),
  (122,[(0,1),(1,1),(2,1),(3,1),(4,1)]),
  (123,[(0,1),(1,1),(2,1),(3,1),(4,1)]),
  (134,[(0,1),(1,1),(2,1),(3,1)]),
  (144,[(0,1),(1,1),(2,1),(3,1),(4,1)]),
  (230,[(0,1),(1,1)]),
  (231,[(0,1),(1,1)])]
 io:=[(117,0),(140,0),(141,0)]
 gv:=[140,141]
 addr:=[(126,[0,1,2,3,4])]
 ars:=[(163,5)]
 pw:=[(78,[6,0,0]),(126,[5]),(143,[2,0]),(144,[2,0]),(145,[2]),(163,[2,0])]
noncomputable def IV:List (Nat×Func):=[(3,Tryz.f3),(4,Tryz.f4),(5,Tryz.f5),(6,Tryz.f6),(7,Tryz.f7),(8,Tryz.f8),(9,Tryz.f9),(10,Tryz.f10),(11,Tryz.f11),(12,Tryz.f12),(13,Tryz.f13),(14,Tryz.f14),(15,Tryz.f15),(16,Tryz.f16),(17,Tryz.f17),(18,Tryz.f18),(19,Tryz.f19),(20,Tryz.f20),(21,Tryz.f21),(22,Tryz.f22),(23,Tryz.f23),(24,Tryz.f24),(25,Tryz.f25),(26,Tryz.f26),(27,Tryz.f27),(28,Tryz.f28),(29,Tryz.f29),(30,Tryz.f30),(31,Tryz.f31),(32,Tryz.f32),(33,Tryz.f33),(34,Tryz.f34),(35,Tryz.f35),(36,Tryz.f36),(37,Tryz.f37),(38,Tryz.f38),(39,Tryz.f39),(40,Tryz.f40),(41,Tryz.f41),(42,Tryz.f42),(43,Tryz.f43),(44,Tryz.f44),(45,Tryz.f45),(46,Tryz.f46),(47,Tryz.f47),(48,Tryz.f48),(49,Tryz.f49),(50,Tryz.f50),(51,Tryz.f51),(52,Tryz.f52),(53,Tryz.f53),(54,Tryz.f54),(55,Tryz.f55),(56,Tryz.f56),(57,Tryz.f57),(58,Tryz.f58),(59,Tryz.f59),(60,Tryz.f60),(61,Tryz.f61),(62,Tryz.f62),(63,Tryz.f63),(64,Tryz.f64),(65,Tryz.f65),(66,Tryz.f66),(67,Tryz.f67),(68,Tryz.f68),(69,Tryz.f69),(70,Tryz.f70),(71,Tryz.f71),(72,Tryz.f72),(73,Tryz.f73),(74,Tryz.f74),(75,Tryz.f75),(76,Tryz.f76),(77,Tryz.f77),(78,Tryz.f78),(79,Tryz.f79),(80,Tryz.f80),(81,Tryz.f81),(82,Tryz.f82),(83,Tryz.f83),(84,Tryz.f84),(85,Tryz.f85),(86,Tryz.f86),(87,Tryz.f87),(88,Tryz.f88),(89,Tryz.f89),(90,Tryz.f90),(91,Tryz.f91),(92,Tryz.f92),(93,Tryz.f93),(94,Tryz.f94),(95,Tryz.f95),(96,Tryz.f96),(97,Tryz.f97),(98,Tryz.f98),(99,Tryz.f99),(100,Tryz.f100),(101,Tryz.f101),(102,Tryz.f102),(103,Tryz.f103),(104,Tryz.f104),(105,Tryz.f105),(106,Tryz.f106),(107,Tryz.f107),(108,Tryz.f108),(109,Tryz.f109),(110,Tryz.f110),(111,Tryz.f111),(112,Tryz.f112),(113,Tryz.f113),(114,Tryz.f114),(115,Tryz.f115),(116,Tryz.f116),(117,Tryz.f117),(118,Tryz.f118),(119,Tryz.f119),(120,Tryz.f120),(121,Tryz.f121),(122,Tryz.f122),(123,Tryz.f123),(124,Tryz.f124),(125,Tryz.f125),(126,Tryz.f126),(127,Tryz.f127),(128,Tryz.f128),(129,Tryz.f129),(130,Tryz.f130),(131,Tryz.f131),(132,Tryz.f132),(133,Tryz.f133),(134,Tryz.f134),(135,Tryz.f135),(136,Tryz.f136),(137,Tryz.f137),(138,Tryz.f138),(139,Tryz.f139),(140,Tryz.f140),(141,Tryz.f141),(142,Tryz.f142),(143,Tryz.f143),(144,Tryz.f144),(145,Tryz.f145),(146,Tryz.f146),(147,Tryz.f147),(148,Tryz.f148),(149,Tryz.f149),(150,Tryz.f150),(151,Tryz.f151),(152,Tryz.f152),(153,Tryz.f153),(154,Tryz.f154),(155,Tryz.f155),(156,Tryz.f156),(157,Tryz.f157),(158,Tryz.f158),(159,Tryz.f159),(160,Tryz.f160),(161,Tryz.f161),(163,Tryz.f163),(164,Tryz.f164),(165,Tryz.f165),(166,Tryz.f166),(167,Tryz.f167),(168,Tryz.f168),(169,Tryz.f169),(170,Tryz.f170),(171,Tryz.f171),(172,Tryz.f172),(173,Tryz.f173),(174,Tryz.f174),(177,Tryz.f177),(178,Tryz.f178),(179,Tryz.f179),(181,Tryz.f181),(182,Tryz.f182),(183,Tryz.f183),(184,Tryz.f184),(185,Tryz.f185),(186,Tryz.f186),(187,Tryz.f187),(188,Tryz.f188),(190,Tryz.f190),(191,Tryz.f191),(192,Tryz.f192),(193,Tryz.f193),(194,Tryz.f194),(195,Tryz.f195),(197,Tryz.f197),(198,Tryz.f198),(199,Tryz.f199)]
def hints:FuncId→kq
 | 3=>{ take:=fun r i=>match r,i with| 6,3=>true|_,_=>false,draw:=fun i=>match i with| 10=>some (3,[[],[],[1],V6 3,V6 4])|_=>none }
 | 6=>{ take:=fun r i=>match r,i with| 2,4=>true| 3,4=>true| 4,4=>true| 7,0=>true| 7,1=>true|_,_=>false }
 | 7=>{ draw:=fun i=>match i with| 7=>some (12,[[],[0],[0,1],V6 3,V6 4,[0,1],[0,1,5],[0,1],[0,1,5,6,7],[0,1,5,6,7,8],[0,1,5,6,7,8,9],[0,1,5,6,7,8,9,10],V6 12,V6 13])|_=>none,head:=fun i=>match i with| 5=>some [1,5,6,7,16,17,18]|_=>none,tail:=fun i e=>match i,e with| 5,.exit 0=>some [5,6,7]| 5,.ret=>some [2,3,4]|_,_=>none }
 | 9=>{ head:=fun i=>match i with| 5=>some [0,1,5]|_=>none,tail:=fun i e=>match i,e with| 5,.exit 0=>some [1]| 5,.ret=>some [4]|_,_=>none }
 | 10=>{ head:=fun i=>match i with| 5=>some [0,1,5]|_=>none,tail:=fun i e=>match i,e with| 5,.exit 0=>some [1]| 5,.ret=>some [4]|_,_=>none }
 | 11=>{ head:=fun i=>match i with| 5=>some [0,1,5]|_=>none,tail:=fun i e=>match i,e with| 5,.exit 0=>some [1]| 5,.ret=>some [4]|_,_=>none }
 | 13=>{ take:=fun r i=>match r,i with| 9,4=>true|_,_=>false,draw:=fun i=>match i with| 7=>some (9,[[],[0],[],[],[3],[2,3,4],V6 6,V6 7,[],V6 9])| 8=>some (23,[[],[0],[0,1],V6 3,V6 3,[0,1,2,4],V6 6,V6 7,V6 8,V6 9,V6 10,V6 11,V6 12,V6 13,V6 14,V6 13,V6 16,V6 17,V6 18,V6 19,V6 13,[0,1,2,3,4,5,6,7,8,9,10,11,12,20],[0,1,2,3,4,5,6,7,8,9,10,11,12,20,21],V6 23,V6 24,V6 25])| 15=>some (16,[[],[0],[],[],[],[],[],[4,5,6],[],[8],V6 10,V6 11,V6 12,V6 12,V6 14,V6 12,V6 16,V6 17,V6 18])|_=>none,head:=fun i=>match i with| 4=>some [1,5,6,7]| 11=>some [1,5,6,7,8,9,10,11]|_=>none,tail:=fun i e=>match i,e with| 4,.exit 0=>some [5,6]| 4,.ret=>some [2,3,4]| 11,.exit 0=>some [5,6]| 11,.exit 1=>some [1,5,6,7]| 11,.exit 2=>some [1,5,6,7]| 11,.ret=>some [2,3,4]|_,_=>none }
 | 14=>{ take:=fun r i=>match r,i with| 1,3=>true| 6,0=>true| 6,1=>true|_,_=>false,head:=fun i=>match i with| 3=>some [0,3,4]|_=>none,tail:=fun i e=>match i,e with| 3,.exit 0=>some [3]| 3,.ret=>some [2]|_,_=>none }
 | 15=>{ take:=fun r i=>match r,i with| 1,3=>true| 5,8=>true| 6,0=>true| 6,1=>true|_,_=>false,head:=fun i=>match i with| 3=>some [0,3,4]|_=>none,tail:=fun i e=>match i,e with| 3,.exit 0=>some [3]| 3,.ret=>some [2]|_,_=>none }
 | 16=>{ take:=fun r i=>match r,i with| 1,3=>true| 5,8=>true| 6,0=>true| 6,1=>true|_,_=>false,head:=fun i=>match i with| 3=>some [0,3,4]|_=>none,tail:=fun i e=>match i,e with| 3,.exit 0=>some [3]| 3,.ret=>some [2]|_,_=>none }
 | 17=>{ draw:=fun i=>match i with| 11=>some (6,[[],[],[1],V6 3,[],[4],V6 6,V6 7])|_=>none,head:=fun i=>match i with| 4=>some [1,34,35,36]| 9=>some [1,34,35,36,48,49,50]|_=>none,tail:=fun i e=>match i,e with| 4,.exit 0=>some []| 4,.ret=>some [2]| 9,.exit 0=>some []| 9,.exit 1=>some [1,34,35,36]| 9,.exit 2=>some [1,34,35,36]| 9,.ret=>some [2]|_,_=>none }
 | 18=>{ draw:=fun i=>match i with| 3=>some (25,[[],[0],[0,1],V6 3,V6 4,V6 3,V6 6,V6 7,V6 8,V6 9,V6 10,V6 11,V6 11,[0,1,2,3,4,5,6,7,8,9,10,12],V6 14,V6 15,V6 16,V6 17,V6 18,V6 19,V6 18,V6 21,V6 22,V6 23,V6 18,V6 25,V6 26,V6 27])| 10=>some (15,[[],[],[],[],[],[],[3,4,5],[],[7],V6 9,V6 10,V6 11,V6 11,V6 13,V6 11,V6 15,V6 16,V6 17])|_=>none,head:=fun i=>match i with| 7=>some [1,2,6,8,56,57,58]|_=>none,tail:=fun i e=>match i,e with| 7,.exit 0=>some []| 7,.ret=>some [4,5]|_,_=>none }
 | 19=>{ draw:=fun i=>match i with| 6=>some (8,[[],[],[0,1],V6 3,[],[],[4,5],[4,5,6],V6 8,V6 9])|_=>none,head:=fun i=>match i with| 4=>some [0,1,5]|_=>none,tail:=fun i e=>match i,e with| 4,.exit 0=>some []| 4,.ret=>some [4]|_,_=>none }
 | 20=>{ draw:=fun i=>match i with| 6=>some (8,[[],[],[0,1],V6 3,[],[],[4,5],[4,5,6],V6 8,V6 9])|_=>none,head:=fun i=>match i with| 4=>some [0,1,5]|_=>none,tail:=fun i e=>match i,e with| 4,.exit 0=>some []| 4,.ret=>some [4]|_,_=>none }
 | 21=>{ draw:=fun i=>match i with| 6=>some (8,[[],[],[0,1],V6 3,[],[],[4,5],[4,5,6],V6 8,V6 9])|_=>none,head:=fun i=>match i with| 4=>some [0,1,5]|_=>none,tail:=fun i e=>match i,e with| 4,.exit 0=>some []| 4,.ret=>some [4]|_,_=>none }
 | 25=>{ draw:=fun i=>match i with| 5=>some (16,[[],[0],[0,1],V6 3,V6 4,V6 5,V6 6,V6 7,V6 8,V6 8,[0,1,2,3,4,5,6,7,9],V6 11,V6 12,V6 13,V6 8,[0,1,2,3,4,5,6,7,14],V6 16,V6 17,V6 18,V6 19,V6 20,V6 21,V6 22,V6 23,V6 24,V6 25,V6 26,V6 27,V6 28,V6 29,V6 30,V6 31,V6 32,V6 33,V6 34,V6 35,V6 36,V6 37,V6 38,V6 39,V6 40])|_=>none,head:=fun i=>match i with| 2=>some [0,3]|_=>none,tail:=fun i e=>match i,e with| 2,.exit 0=>some [0]| 2,.ret=>some [2]|_,_=>none }
 | 27=>{ draw:=fun i=>match i with| 5=>some (37,[[],[0],[0,1],V6 3,V6 4,V6 5,V6 6,V6 7,V6 8,V6 9,V6 8,[0,1,2,3,4,5,6,7,10],V6 12,V6 13,V6 14,V6 15,V6 8,[0,1,2,3,4,5,6,7,16],[0,1,2,3,4,5,6,7,16,17],V6 19,V6 20,V6 21,V6 22,V6 23,V6 24,V6 23,[0,1,2,3,4,5,6,7,8,9,10,11,12,13,14,15,16,17,18,19,20,21,22,25],[0,1,2,3,4,5,6,7,8,9,10,11,12,13,14,15,16,17,18,19,20,21,22,25,26],V6 28,V6 29,V6 30,V6 31,V6 32,V6 33,V6 32,[0,1,2,3,4,5,6,7,8,9,10,11,12,13,14,15,16,17,18,19,20,21,22,23,24,25,26,27,28,29,30,31,34],[0,1,2,3,4,5,6,7,8,9,10,11,12,13,14,15,16,17,18,19,20,21,22,23,24,25,26,27,28,29,30,31,34,35],V6 37,V6 38,V6 39])|_=>none,head:=fun i=>match i with| 2=>some [1,3]|_=>none,tail:=fun i e=>match i,e with| 2,.exit 0=>some [1]| 2,.ret=>some [2]|_,_=>none }
 | 28=>{ take:=fun r i=>match r,i with| 1,1=>true| 16,0=>true| 16,4=>true|_,_=>false,draw:=fun i=>match i with| 7=>some (38,[[],[0],[0,1],V6 3,V6 4,V6 5,V6 6,V6 7,V6 6,[0,1,2,3,4,5,8],V6 10,V6 11,V6 6,V6 13,V6 14,V6 15,V6 16,V6 17,V6 18,V6 19,V6 18,V6 21,V6 22,V6 23,V6 18,V6 25,V6 26,V6 27,V6 28,V6 29,V6 30,V6 31,V6 29,[0,1,2,3,4,5,6,7,8,9,10,11,12,13,14,15,16,17,18,19,20,21,22,23,24,25,26,27,28,32],V6 29,[0,1,2,3,4,5,6,7,8,9,10,11,12,13,14,15,16,17,18,19,20,21,22,23,24,25,26,27,28,32,33,34],[0,1,2,3,4,5,6,7,8,9,10,11,12,13,14,15,16,17,18,19,20,21,22,23,24,25,26,27,28,32,33,34,35],[0,1,2,3,4,5,6,7,8,9,10,11,12,13,14,15,16,17,18,19,20,21,22,23,24,25,26,27,28,32,33,34,35,36],V6 38,V6 39])|_=>none,head:=fun i=>match i with| 3=>some [1,3,4]| 10=>some [1,3,4,5,7]|_=>none,tail:=fun i e=>match i,e with| 3,.exit 0=>some [1]| 3,.ret=>some [2]| 10,.exit 0=>some [1]| 10,.exit 1=>some [1,3,4]| 10,.exit 2=>some [1,3,4]| 10,.ret=>some [2]|_,_=>none }
 | 29=>{ draw:=fun i=>match i with| 5=>some (7,[[],[],[1],[],[1,2,3],[1,2,3,4],[1,2,3,4,5],V6 7,V6 8])|_=>none,head:=fun i=>match i with| 3=>some [1,2,5,6]| 7=>some [1,2,5,6,7,8]|_=>none,tail:=fun i e=>match i,e with| 3,.exit 0=>some [5]| 3,.ret=>some [4]| 7,.exit 0=>some [5]| 7,.exit 1=>some [1,2,5,6]| 7,.exit 2=>some [1,2,5,6]| 7,.ret=>some [4]|_,_=>none }
 | 30=>{ head:=fun i=>match i with| 2=>some [1,2,5]|_=>none,tail:=fun i e=>match i,e with| 2,.exit 0=>some []| 2,.ret=>some [4]|_,_=>none }
 | 31=>{ head:=fun i=>match i with| 3=>some [1,2,5,6]| 6=>some [1,2,5,6,7]|_=>none,tail:=fun i e=>match i,e with| 3,.exit 0=>some [5]| 3,.ret=>some [4]| 6,.exit 0=>some [5]| 6,.exit 1=>some [1,2,5,6]| 6,.exit 2=>some [1,2,5,6]| 6,.ret=>some [4]|_,_=>none }
 | 32=>{ take:=fun r i=>match r,i with| 1,1=>true| 15,0=>true| 15,4=>true| 17,0=>true| 17,1=>true|_,_=>false,head:=fun i=>match i with| 3=>some [0,3,4]| 6=>some [0,3,4,5]| 11=>some [0,3,4,5,6,7]|_=>none,tail:=fun i e=>match i,e with| 3,.exit 0=>some [3]| 3,.ret=>some [2]| 6,.exit 0=>some [3]| 6,.exit 1=>some [0,3,4]| 6,.exit 2=>some [0,3,4]| 6,.ret=>some [2]| 11,.exit 0=>some [3]| 11,.exit 1=>some [0,3,4]| 11,.exit 2=>some [0,3,4]| 11,.exit 3=>some [0,3,4,5]| 11,.exit 4=>some [0,3,4,5,6]| 11,.ret=>some [2]|_,_=>none }
 | 34=>{ draw:=fun i=>match i with| 3=>some (16,[[],[0],[0,1],V6 3,V6 4,V6 3,[0,1,2,5],V6 7,V6 8,V6 9,V6 3,[0,1,2,10],V6 3,[0,1,2,10,11,12],[0,1,2,10,11,12,13],[0,1,2,10,11,12,13,14],V6 16,V6 17])|_=>none }
 | 37=>{ take:=fun r i=>match r,i with| 2,4=>true| 6,0=>true| 6,1=>true|_,_=>false }
 | 38=>{ take:=fun r i=>match r,i with| 5,4=>true| 6,0=>true| 6,1=>true|_,_=>false }
 | 39=>{ draw:=fun i=>match i with| 6=>some (11,[[],[0],[0,1],V6 3,V6 4,V6 3,V6 3,[0,1,2,6],[0,1,2,5,6,7],[0,1,2,5,6,7,8],[0,1,2,5,6,7,8,9],V6 11,V6 12])|_=>none,head:=fun i=>match i with| 2=>some [0,5,6,7]|_=>none,tail:=fun i e=>match i,e with| 2,.exit 0=>some [0]| 2,.ret=>some [2]|_,_=>none }
 | 40=>{ draw:=fun i=>match i with| 6=>some (13,[[],[0],[0,1],V6 3,V6 4,V6 5,V6 3,V6 3,[0,1,2,7],[0,1,2,6,7,8],[0,1,2,6,7,8,9],[0,1,2,6,7,8,9,10],[0,1,2,6,7,8,9,10,11],V6 13,V6 14])|_=>none,head:=fun i=>match i with| 2=>some [0,5,6,7]|_=>none,tail:=fun i e=>match i,e with| 2,.exit 0=>some [0]| 2,.ret=>some [2]|_,_=>none }
 | 41=>{ draw:=fun i=>match i with| 5=>some (23,[[],[0],[0,1],V6 3,V6 4,V6 3,V6 6,V6 7,V6 8,V6 3,V6 10,V6 11,V6 12,V6 13,V6 14,V6 15,V6 16,V6 14,[0,1,2,3,4,5,6,7,8,9,10,11,12,13,17],V6 14,[0,1,2,3,4,5,6,7,8,9,10,11,12,13,17,18,19],[0,1,2,3,4,5,6,7,8,9,10,11,12,13,17,18,19,20],[0,1,2,3,4,5,6,7,8,9,10,11,12,13,17,18,19,20,21],V6 23,V6 24])| 7=>some (10,[[],[0],[0,1],V6 3,V6 4,V6 3,[0,1,2,5],V6 7,V6 8,V6 3,V6 10,V6 11,V6 12])|_=>none,head:=fun i=>match i with| 2=>some [1,7,8,9]|_=>none,tail:=fun i e=>match i,e with| 2,.exit 0=>some [1]| 2,.ret=>some [2]|_,_=>none }
 | 42=>{ take:=fun r i=>match r,i with| 1,2=>true|_,_=>false,head:=fun i=>match i with| 3=>some [1,3,8,9,10]|_=>none,tail:=fun i e=>match i,e with| 3,.exit 0=>some [1]| 3,.ret=>some [2]|_,_=>none }
 | 44=>{ head:=fun i=>match i with| 3=>some [1,5,11,12,13]| 6=>some [1,5,7,11,12,13,18,19,20]|_=>none,tail:=fun i e=>match i,e with| 3,.exit 0=>some [5]| 3,.ret=>some [4]| 6,.exit 0=>some [5]| 6,.exit 1=>some [1,5,11,12,13]| 6,.exit 2=>some [1,5,11,12,13]| 6,.ret=>some [4]|_,_=>none }
 | 45=>{ head:=fun i=>match i with| 3=>some [1,2,5,13,14,15]| 9=>some [1,2,5,9,13,14,15,40,41,42]|_=>none,tail:=fun i e=>match i,e with| 3,.exit 0=>some [5]| 3,.ret=>some [4]| 9,.exit 0=>some [5]| 9,.exit 1=>some [1,2,5,13,14,15]| 9,.exit 2=>some [1,2,5,13,14,15]| 9,.ret=>some [4]|_,_=>none }
 | 49=>{ take:=fun r i=>match r,i with| 4,1=>true| 5,4=>true|_,_=>false,head:=fun i=>match i with| 2=>some [1,3]|_=>none,tail:=fun i e=>match i,e with| 2,.exit 0=>some [2]| 2,.ret=>some [2]|_,_=>none }
 | 51=>{ draw:=fun i=>match i with| 3=>some (16,[[],[0],[0,1],V6 3,V6 4,V6 3,[0,1,2,5],V6 7,V6 8,V6 9,V6 3,[0,1,2,10],V6 3,[0,1,2,10,11,12],[0,1,2,10,11,12,13],[0,1,2,10,11,12,13,14],V6 16,V6 17])|_=>none }
 | 57=>{ take:=fun r i=>match r,i with| 1,3=>true| 1,7=>true| 2,0=>true|_,_=>false,draw:=fun i=>match i with| 10=>some (7,[[],[0],[0,1],V6 3,[],[4],[4,5],V6 7,V6 8])|_=>none,head:=fun i=>match i with| 6=>some [1,7]|_=>none,tail:=fun i e=>match i,e with| 6,.exit 0=>some [1]| 6,.ret=>some [2]|_,_=>none }
 | 59=>{ draw:=fun i=>match i with| 7=>some (30,[[],[0],[0,1],V6 3,V6 4,V6 5,V6 6,V6 5,[0,1,2,3,4,7],V6 5,[0,1,2,3,4,7,8,9],[0,1,2,3,4,7,8,9,10],[0,1,2,3,4,7,8,9,10,11],[0,1,2,3,4,7,8,9,10,11,12],V6 14,V6 15,V6 16,V6 17,V6 18,V6 19,V6 20,V6 21,V6 22,V6 23,V6 24,V6 25,V6 26,V6 24,[0,1,2,3,4,5,6,7,8,9,10,11,12,13,14,15,16,17,18,19,20,21,22,23,27],[0,1,2,3,4,5,6,7,8,9,10,11,12,13,14,15,16,17,18,19,20,21,22,23,27,28],V6 30,V6 31,V6 32,V6 33,V6 34,V6 35,V6 36,V6 37])|_=>none,head:=fun i=>match i with| 4=>some [2,3,5]|_=>none,tail:=fun i e=>match i,e with| 4,.exit 0=>some []| 4,.ret=>some [4]|_,_=>none }
 | 60=>{ head:=fun i=>match i with| 2=>some [0,1,5]|_=>none,tail:=fun i e=>match i,e with| 2,.exit 0=>some []| 2,.ret=>some [4]|_,_=>none }
 | 61=>{ head:=fun i=>match i with| 2=>some [0,1,5]|_=>none,tail:=fun i e=>match i,e with| 2,.exit 0=>some []| 2,.ret=>some [4]|_,_=>none }
 | 62=>{ take:=fun r i=>match r,i with| 3,3=>true|_,_=>false,draw:=fun i=>match i with| 7=>some (6,[[],[0],[],[],[2,3],[2,3,4],V6 6,V6 7,V6 8,V6 9])|_=>none,head:=fun i=>match i with| 5=>some [4,8,9,10,11]|_=>none,tail:=fun i e=>match i,e with| 5,.exit 0=>some [8,9]| 5,.ret=>some [6,7]|_,_=>none }
 | 63=>{ take:=fun r i=>match r,i with| 7,4=>true| 8,0=>true| 8,1=>true|_,_=>false }
 | 65=>{ take:=fun r i=>match r,i with| 1,3=>true| 6,0=>true| 6,1=>true|_,_=>false,head:=fun i=>match i with| 3=>some [0,3,4]|_=>none,tail:=fun i e=>match i,e with| 3,.exit 0=>some [3]| 3,.ret=>some [2]|_,_=>none }
 | 68=>{ draw:=fun i=>match i with| 17=>some (6,[[],[0],[0,1],[],[3],[3,4],V6 6,V6 7])|_=>none,head:=fun i=>match i with| 6=>some [1,40,41,42]| 11=>some [1,40,41,42,59,60,61]|_=>none,tail:=fun i e=>match i,e with| 6,.exit 0=>some [1]| 6,.ret=>some [2]| 11,.exit 0=>some [1]| 11,.exit 1=>some [1,40,41,42]| 11,.exit 2=>some [1,40,41,42]| 11,.ret=>some [2]|_,_=>none }
 | 69=>{ head:=fun i=>match i with| 4=>some [2,3,34,35]|_=>none,tail:=fun i e=>match i,e with| 4,.exit 0=>some []| 4,.ret=>some [4]|_,_=>none }
 | 70=>{ draw:=fun i=>match i with| 1=>some (11,[[],[0],[],[2],V6 4,[],[5],[5,6],[],[8],[8,9],V6 11,V6 12,V6 13,V6 14])|_=>none }
 | 71=>{ take:=fun r i=>match r,i with| 9,0=>true| 9,5=>true| 12,0=>true| 12,1=>true|_,_=>false,head:=fun i=>match i with| 3=>some [3,9,10,11]| 6=>some [3,9,10,11,16,17,18]|_=>none,tail:=fun i e=>match i,e with| 3,.exit 0=>some [3]| 3,.ret=>some [2]| 6,.exit 0=>some [3]| 6,.exit 1=>some [3,9,10,11]| 6,.exit 2=>some [3,9,10,11]| 6,.ret=>some [2]|_,_=>none }
 | 73=>{ head:=fun i=>match i with| 2=>some [0,1,7,8]|_=>none,tail:=fun i e=>match i,e with| 2,.exit 0=>some []| 2,.ret=>some [4]|_,_=>none }
 | 75=>{ head:=fun i=>match i with| 2=>some [0,1,7,8]|_=>none,tail:=fun i e=>match i,e with| 2,.exit 0=>some []| 2,.ret=>some [4]|_,_=>none }
 | 76=>{ draw:=fun i=>match i with| 1=>some (10,[[],[],[],[2],[1,2,3],V6 5,V6 6,V6 7,V6 8,V6 8,V6 10,V6 11,V6 12])|_=>none }
 | 78=>{ head:=fun i=>match i with| 2=>some [0,2,10,11,12]|_=>none,tail:=fun i e=>match i,e with| 2,.exit 0=>some []| 2,.ret=>some [6]|_,_=>none }
 | 79=>{ head:=fun i=>match i with| 3=>some [3,5,10,11,17,18,19]|_=>none,tail:=fun i e=>match i,e with| 3,.exit 0=>some [10,11]| 3,.ret=>some [8,9]|_,_=>none }
 | 83=>{ draw:=fun i=>match i with| 6=>some (8,[[],[],[0,1],V6 3,[],[],[4,5],[4,5,6],V6 8,V6 9])|_=>none,head:=fun i=>match i with| 4=>some [0,1,5]|_=>none,tail:=fun i e=>match i,e with| 4,.exit 0=>some []| 4,.ret=>some [4]|_,_=>none }
 | 84=>{ head:=fun i=>match i with| 5=>some [0,1,5]|_=>none,tail:=fun i e=>match i,e with| 5,.exit 0=>some [1]| 5,.ret=>some [4]|_,_=>none }
 | 85=>{ take:=fun r i=>match r,i with| 1,2=>true| 1,5=>true| 3,1=>true| 4,2=>true| 5,1=>true| 6,5=>true| 6,9=>true| 7,5=>true| 7,9=>true| 8,5=>true| 8,9=>true| 9,5=>true| 9,9=>true| 10,1=>true| 10,5=>true| 10,9=>true| 15,1=>true| 16,0=>true| 16,1=>true|_,_=>false,head:=fun i=>match i with| 12=>some [2,6,7,8]|_=>none,tail:=fun i e=>match i,e with| 12,.exit 0=>some [2,6]| 12,.ret=>some [2,3]|_,_=>none }
 | 86=>{ draw:=fun i=>match i with| 3=>some (22,[[],[0],[0,1],V6 3,[],[4],[0,1,2,4,5],V6 7,V6 8,[],[9],[0,1,2,4,5,6,9,10],V6 12,V6 13,[],[14],[0,1,2,4,5,6,9,10,11,14,15],V6 17,V6 18,[],[19],[0,1,2,4,5,6,9,10,11,14,15,16,19,20],V6 22,V6 23,V6 24])|_=>none }
 | 87=>{ head:=fun i=>match i with| 4=>some [0,3]|_=>none,tail:=fun i e=>match i,e with| 4,.exit 0=>some []| 4,.ret=>some [2]|_,_=>none }
 | 88=>{ draw:=fun i=>match i with| 7=>some (33,[[],[],[1],[],[1,2,3],[1,2,3,4],V6 6,V6 7,V6 8,V6 9,V6 10,V6 9,V6 12,V6 13,V6 9,[0,1,2,3,4,5,6,7,8,14],V6 16,V6 17,V6 18,V6 19,V6 20,V6 21,V6 22,V6 23,V6 22,[0,1,2,3,4,5,6,7,8,9,10,11,12,13,14,15,16,17,18,19,20,21,24],V6 26,V6 27,V6 22,[0,1,2,3,4,5,6,7,8,9,10,11,12,13,14,15,16,17,18,19,20,21,28],V6 22,[0,1,2,3,4,5,6,7,8,9,10,11,12,13,14,15,16,17,18,19,20,21,28,29,30],[0,1,2,3,4,5,6,7,8,9,10,11,12,13,14,15,16,17,18,19,20,21,28,29,30,31],V6 33,V6 34,V6 35])|_=>none,head:=fun i=>match i with| 5=>some [0,5,6]|_=>none,tail:=fun i e=>match i,e with| 5,.exit 0=>some []| 5,.ret=>some [4]|_,_=>none }
 | 90=>{ take:=fun r i=>match r,i with| 1,1=>true| 9,0=>true| 9,4=>true| 10,0=>true| 10,1=>true|_,_=>false,draw:=fun i=>match i with| 8=>some (15,[[],[0],[],V6 3,V6 4,V6 5,[],V6 7,V6 8,[],[9],[],[9,10,11],[9,10,11,12],[9,10,11,12,13],V6 15])|_=>none,head:=fun i=>match i with| 3=>some [1,2,5,6]| 6=>some [1,2,5,6,7]|_=>none,tail:=fun i e=>match i,e with| 3,.exit 0=>some [5]| 3,.ret=>some [4]| 6,.exit 0=>some [5]| 6,.exit 1=>some [1,2,5,6]| 6,.exit 2=>some [1,2,5,6]| 6,.ret=>some [4]|_,_=>none }
 | 91=>{ take:=fun r i=>match r,i with| 1,3=>true| 5,8=>true| 6,0=>true| 6,1=>true|_,_=>false,head:=fun i=>match i with| 3=>some [0,3,4]|_=>none,tail:=fun i e=>match i,e with| 3,.exit 0=>some [3]| 3,.ret=>some [2]|_,_=>none }
 | 93=>{ head:=fun i=>match i with| 2=>some [0,3]|_=>none,tail:=fun i e=>match i,e with| 2,.exit 0=>some [0]| 2,.ret=>some [2]|_,_=>none }
 | 94=>{ take:=fun r i=>match r,i with| 1,2=>true| 1,6=>true| 2,0=>true|_,_=>false }
 | 95=>{ head:=fun i=>match i with| 4=>some [1,28,29,30]|_=>none,tail:=fun i e=>match i,e with| 4,.exit 0=>some []| 4,.ret=>some [2]|_,_=>none }
 | 97=>{ draw:=fun i=>match i with| 2=>some (14,[[],[0],[0,1],V6 3,V6 4,V6 5,V6 6,V6 5,[0,1,2,3,4,7],V6 5,[0,1,2,3,4,7,8,9],[0,1,2,3,4,7,8,9,10],[0,1,2,3,4,7,8,9,10,11],[0,1,2,3,4,7,8,9,10,11,12],V6 14,V6 15,V6 16,V6 17,V6 18,V6 19,V6 20,V6 21,V6 22])|_=>none }
 | 98=>{ head:=fun i=>match i with| 3=>some [3,6,7,8]|_=>none,tail:=fun i e=>match i,e with| 3,.exit 0=>some [3]| 3,.ret=>some [2]|_,_=>none }
 | 101=>{ head:=fun i=>match i with| 2=>some [0,1,7,8]|_=>none,tail:=fun i e=>match i,e with| 2,.exit 0=>some []| 2,.ret=>some [4]|_,_=>none }
 | 103=>{ take:=fun r i=>match r,i with| 5,0=>true| 5,6=>true| 8,0=>true| 8,1=>true|_,_=>false,head:=fun i=>match i with| 3=>some [2,5,13,14,15]|_=>none,tail:=fun i e=>match i,e with| 3,.exit 0=>some [5]| 3,.ret=>some [4]|_,_=>none }
 | 104=>{ draw:=fun i=>match i with| 6=>some (8,[[],[],[0,1],V6 3,[],[],[4,5],[4,5,6],V6 8,V6 9])|_=>none,head:=fun i=>match i with| 4=>some [0,1,5]|_=>none,tail:=fun i e=>match i,e with| 4,.exit 0=>some []| 4,.ret=>some [4]|_,_=>none }
 | 107=>{ take:=fun r i=>match r,i with| 1,1=>true| 3,0=>true| 3,1=>true| 9,1=>true| 12,0=>true| 12,7=>true| 15,1=>true| 16,0=>true| 16,1=>true|_,_=>false,head:=fun i=>match i with| 6=>some [0,4,5,6]|_=>none,tail:=fun i e=>match i,e with| 6,.exit 0=>some [4]| 6,.ret=>some [2,3]|_,_=>none }
 | 108=>{ take:=fun r i=>match r,i with| 1,3=>true| 2,2=>true| 8,1=>true| 13,1=>true| 18,0=>true| 18,4=>true| 19,0=>true| 19,1=>true|_,_=>false,head:=fun i=>match i with| 4=>some [1,2,8,9,10]| 10=>some [1,2,8,9,10,12,13,15]| 15=>some [2,8,16,17]|_=>none,tail:=fun i e=>match i,e with| 4,.exit 0=>some [1,2,8]| 4,.ret=>some [6,7]| 10,.exit 0=>some [1,2,8]| 10,.exit 1=>some [1,2,8,9,10]| 10,.exit 2=>some [1,2,8,9,10]| 10,.ret=>some [6,7]| 15,.exit 4=>some [16]| 15,.ret=>some [6,7]|_,_=>none }
 | 110=>{ head:=fun i=>match i with| 5=>some [0,5,6]|_=>none,tail:=fun i e=>match i,e with| 5,.exit 0=>some [5]| 5,.ret=>some [4]|_,_=>none }
 | 111=>{ take:=fun r i=>match r,i with| 6,4=>true| 7,0=>true| 7,1=>true|_,_=>false }
 | 112=>{ take:=fun r i=>match r,i with| 1,2=>true| 1,5=>true| 3,1=>true| 8,6=>true| 8,9=>true| 10,1=>true| 11,1=>true| 11,3=>true| 13,0=>true| 13,1=>true|_,_=>false,head:=fun i=>match i with| 6=>some [2,4,6,24,25]|_=>none,tail:=fun i e=>match i,e with| 6,.exit 0=>some [2,6]| 6,.ret=>some [2,3]|_,_=>none }
 | 113=>{ take:=fun r i=>match r,i with| 8,0=>true| 8,3=>true| 13,0=>true| 13,5=>true| 15,0=>true| 15,1=>true| 15,5=>true| 17,0=>true|_,_=>false,head:=fun i=>match i with| 5=>some [1,4,13,14]| 11=>some [1,4,7,13,14,28,29,30]|_=>none,tail:=fun i e=>match i,e with| 5,.exit 0=>some [4]| 5,.ret=>some [2,3]| 11,.exit 0=>some [4]| 11,.exit 1=>some [4,13,14]| 11,.exit 2=>some [1,4,7,13,14]| 11,.ret=>some [2,3]|_,_=>none }
 | 119=>{ head:=fun i=>match i with| 5=>some [0,1,5]|_=>none,tail:=fun i e=>match i,e with| 5,.exit 0=>some [1]| 5,.ret=>some [4]|_,_=>none }
 | 120=>{ take:=fun r i=>match r,i with| 1,1=>true| 7,0=>true| 7,7=>true| 9,0=>true| 9,1=>true|_,_=>false,head:=fun i=>match i with| 4=>some [0,1,5,6,7]|_=>none,tail:=fun i e=>match i,e with| 4,.exit 0=>some [5]| 4,.ret=>some [4]|_,_=>none }
 | 121=>{ take:=fun r i=>match r,i with| 6,2=>true| 12,7=>true|_,_=>false }
 | 122=>{ draw:=fun i=>match i with| 4=>some (21,[[],[],[0,1],V6 3,[],[],V6 6,V6 7,V6 8,V6 9,V6 10,V6 11,V6 12,V6 12,[0,1,2,3,4,5,6,7,8,9,10,11,13],V6 15,V6 16,V6 12,V6 12,[0,1,2,3,4,5,6,7,8,9,10,11,17,18],[0,1,2,3,4,5,6,7,8,9,10,11,17,18,19],V6 21,V6 22,V6 23])|_=>none,head:=fun i=>match i with| 2=>some [0,1,2,7]|_=>none,tail:=fun i e=>match i,e with| 2,.exit 0=>some [0]| 2,.ret=>some [6]|_,_=>none }
 | 123=>{ head:=fun i=>match i with| 5=>some [0,3,4]|_=>none,tail:=fun i e=>match i,e with| 5,.exit 0=>some [3,4]| 5,.ret=>some [2]|_,_=>none }
 | 124=>{ take:=fun r i=>match r,i with| 1,3=>true| 6,0=>true| 6,1=>true|_,_=>false,head:=fun i=>match i with| 3=>some [0,3,4]|_=>none,tail:=fun i e=>match i,e with| 3,.exit 0=>some [3]| 3,.ret=>some [2]|_,_=>none }
 | 125=>{ take:=fun r i=>match r,i with| 13,0=>true| 13,4=>true| 17,0=>true| 17,1=>true|_,_=>false,head:=fun i=>match i with| 4=>some [0,4]| 10=>some [5,28,29,30]|_=>none,tail:=fun i e=>match i,e with| 4,.exit 0=>some [0]| 4,.ret=>some [2,3]| 10,.exit 2=>some [5]| 10,.ret=>some [2,3]|_,_=>none }
 | 126=>{ draw:=fun i=>match i with| 1=>some (15,[[],[0],[0,1],[],[3],[3,4],[],[6],[6,7],[],[9],[9,10],[],[12],[12,13],V6 15,V6 16])|_=>none }
 | 127=>{ take:=fun r i=>match r,i with| 12,0=>true| 12,4=>true| 15,0=>true| 15,3=>true|_,_=>false,head:=fun i=>match i with| 4=>some [6,7,8,22,23,24]| 10=>some [6,7,8,12,13,15,22,23,24]|_=>none,tail:=fun i e=>match i,e with| 4,.exit 0=>some [8]| 4,.ret=>some [4,5]| 10,.exit 0=>some [8]| 10,.exit 1=>some [6,7,8,22,23,24]| 10,.exit 2=>some [6,7,8,22,23,24]| 10,.ret=>some [4,5]|_,_=>none }
 | 128=>{ head:=fun i=>match i with| 2=>some [1,10,11]| 7=>some [1,5,6,7,10,11,23,24,25]|_=>none,tail:=fun i e=>match i,e with| 2,.exit 0=>some []| 2,.ret=>some [2]| 7,.exit 0=>some []| 7,.exit 1=>some [10,11]| 7,.exit 2=>some [1,7,10,11]| 7,.ret=>some [2]|_,_=>none }
 | 131=>{ head:=fun i=>match i with| 12=>some [0,1,5,39,40,41]| 22=>some [1,8,63,64,65]|_=>none,tail:=fun i e=>match i,e with| 12,.exit 1=>some [0,1,5]| 12,.ret=>some [4]| 22,.exit 3=>some [8]| 22,.ret=>some [4]|_,_=>none }
 | 132=>{ draw:=fun i=>match i with| 17=>some (12,[[],[0],[0,1],V6 3,V6 3,[0,1,2,4],V6 6,V6 7,V6 3,V6 3,[0,1,2,8,9],[0,1,2,8,9,10],V6 12,V6 13,V6 14])|_=>none,head:=fun i=>match i with| 2=>some [0,1,2,3,8,9]|_=>none,tail:=fun i e=>match i,e with| 2,.exit 0=>some []| 2,.ret=>some []|_,_=>none }
 | 134=>{ draw:=fun i=>match i with| 6=>some (8,[[],[],[0,1],V6 3,[],[],[4,5],[4,5,6],V6 8])|_=>none,head:=fun i=>match i with| 4=>some [0,1,5]|_=>none,tail:=fun i e=>match i,e with| 4,.exit 0=>some []| 4,.ret=>some [4]|_,_=>none }
 | 135=>{ head:=fun i=>match i with| 5=>some [0,4,5]|_=>none,tail:=fun i e=>match i,e with| 5,.exit 0=>some [0,4]| 5,.ret=>some [2,3]|_,_=>none }
 | 141=>{ draw:=fun i=>match i with| 6=>some (9,[[],[],[0,1],V6 3,[],[],[5],[4,5,6],[4,5,6,7],V6 9])| 11=>some (9,[[],[],[0,1],V6 3,[],[],[5],[4,5,6],[4,5,6,7],V6 9])|_=>none,head:=fun i=>match i with| 4=>some [0,3]| 9=>some [0,3,4,5]|_=>none,tail:=fun i e=>match i,e with| 4,.exit 0=>some [0]| 4,.ret=>some [2]| 9,.exit 0=>some [0]| 9,.exit 1=>some [0,3]| 9,.exit 2=>some [0,3]| 9,.ret=>some [2]|_,_=>none }
 | 143=>{ draw:=fun i=>match i with| 3=>some (12,[[],[0],[0,1],V6 3,V6 4,[],[5],[5,6],[5,6,7],[5,6,7,8],V6 10,[],V6 12])|_=>none }
 | 145=>{ draw:=fun i=>match i with| 1=>some (10,[[],[0],[0,1],V6 3,V6 4,[],[5],[5,6],[5,6,7],[5,6,7,8],V6 10,V6 11])|_=>none }
 | 146=>{ draw:=fun i=>match i with| 4=>some (13,[[],[],[0,1],V6 3,V6 4,V6 4,V6 6,V6 7,V6 4,V6 4,[0,1,2,3,9],[0,1,2,3,8,9,10],[0,1,2,3,8,9,10,11],V6 13,V6 14])| 6=>some (16,[[],[],[],[],[3],[],[],[6],[5,6,7],[5,6,7,8],[],[],[10,11],[10,11,12],[0,1,5,6,7,8,9,10,11,12,13],[0,1,5,6,7,8,9,10,11,12,13,14],V6 16,V6 17])|_=>none,head:=fun i=>match i with| 1=>some [0,1,2,6]| 4=>some [0,1,2,6,7]|_=>none,tail:=fun i e=>match i,e with| 1,.exit 0=>some []| 1,.ret=>some []| 4,.exit 0=>some []| 4,.exit 1=>some [0,1,2,6]| 4,.exit 2=>some [0,1,2,6]| 4,.ret=>some []|_,_=>none }
 | 147=>{ draw:=fun i=>match i with| 10=>some (18,[[],[],[],[],[],[3,4],[],[],[],[7,8],[6,7,8,9],[6,7,8,9,10],[],[],[12,13],[12,13,14],[0,1,6,7,8,9,10,11,12,13,14,15],[0,1,6,7,8,9,10,11,12,13,14,15,16],V6 18,V6 19])|_=>none,head:=fun i=>match i with| 4=>some [0,6,7,8,9]| 8=>some [0,6,7,10]|_=>none,tail:=fun i e=>match i,e with| 4,.exit 0=>some [0,6,7,8]| 4,.ret=>some []| 8,.exit 2=>some []| 8,.ret=>some []|_,_=>none }
 | 148=>{ draw:=fun i=>match i with| 10=>some (18,[[],[],[],[],[],[3,4],[],[],[],[7,8],[6,7,8,9],[6,7,8,9,10],[],[],[12,13],[12,13,14],[0,1,6,7,8,9,10,11,12,13,14,15],[0,1,6,7,8,9,10,11,12,13,14,15,16],V6 18,V6 19])|_=>none,head:=fun i=>match i with| 5=>some [0,1,6,7,8,9]|_=>none,tail:=fun i e=>match i,e with| 5,.exit 0=>some []| 5,.ret=>some []|_,_=>none }
 | 150=>{ draw:=fun i=>match i with| 3=>some (14,[[],[],[],[],[],[],[4,5],[4,5,6],[],[],[8,9],[8,9,10],[0,1,4,5,6,7,8,9,10,11],[0,1,4,5,6,7,8,9,10,11,12],V6 14,V6 15])|_=>none,head:=fun i=>match i with| 2=>some [0,6,7]|_=>none,tail:=fun i e=>match i,e with| 2,.exit 0=>some []| 2,.ret=>some []|_,_=>none }
 | 151=>{ draw:=fun i=>match i with| 5=>some (13,[[],[],[0,1],V6 3,V6 4,V6 4,V6 6,V6 7,V6 4,V6 4,[0,1,2,3,9],[0,1,2,3,8,9,10],[0,1,2,3,8,9,10,11],V6 13,V6 14,V6 15])| 11=>some (16,[[],[],[],[],[3],[],[],[6],[5,6,7],[5,6,7,8],[],[],[10,11],[10,11,12],[0,1,5,6,7,8,9,10,11,12,13],[0,1,5,6,7,8,9,10,11,12,13,14],V6 16,V6 17])| 16=>some (9,[[],[],[0,1],V6 3,[],[],[5],[4,5,6],[4,5,6,7],V6 9,V6 10])| 17=>some (16,[[],[],[],[],[3],[],[],[6],[5,6,7],[5,6,7,8],[],[],[10,11],[10,11,12],[0,1,5,6,7,8,9,10,11,12,13],[0,1,5,6,7,8,9,10,11,12,13,14],V6 16,V6 17])| 22=>some (9,[[],[],[0,1],V6 3,[],[],[5],[4,5,6],[4,5,6,7],V6 9,V6 10])| 23=>some (16,[[],[],[],[],[3],[],[],[6],[5,6,7],[5,6,7,8],[],[],[10,11],[10,11,12],[0,1,5,6,7,8,9,10,11,12,13],[0,1,5,6,7,8,9,10,11,12,13,14],V6 16,V6 17])|_=>none,head:=fun i=>match i with| 3=>some [0,1,2,7,8]| 5=>some [0,1,2,7,8]| 14=>some [0,1,2,7,8,9]| 20=>some [0,1,2,7,8,10]|_=>none,tail:=fun i e=>match i,e with| 3,.exit 0=>some []| 3,.ret=>some [6]| 5,.exit 0=>some []| 5,.exit 1=>some [0,1,2,7,8]| 5,.exit 2=>some [0,1,2,7,8]| 5,.ret=>some [6]| 14,.exit 0=>some []| 14,.exit 1=>some [0,1,2,7,8]| 14,.exit 4=>some [0,1,2,7,8]| 14,.ret=>some [6]| 20,.exit 0=>some []| 20,.exit 1=>some [0,1,2,7,8]| 20,.exit 6=>some [0,1,2,7,8]| 20,.ret=>some [6]|_,_=>none }
 | 153=>{ draw:=fun i=>match i with| 1=>some (14,[[],[],[],[],[],[],[4,5],[4,5,6],[],[],[8,9],[8,9,10],[0,1,4,5,6,7,8,9,10,11],[0,1,4,5,6,7,8,9,10,11,12],V6 14,V6 15])| 3=>some (12,[[],[],[0,1],V6 3,V6 4,V6 4,V6 6,V6 7,V6 4,V6 4,[0,1,2,3,8,9],[0,1,2,3,8,9,10],V6 12,V6 13,V6 14])| 5=>some (12,[[],[],[0,1],V6 3,V6 4,V6 4,V6 6,V6 7,V6 4,V6 4,[0,1,2,3,8,9],[0,1,2,3,8,9,10],V6 12,V6 13])| 8=>some (14,[[],[],[],[],[],[],[4,5],[4,5,6],[],[],[8,9],[8,9,10],[0,1,4,5,6,7,8,9,10,11],[0,1,4,5,6,7,8,9,10,11,12],V6 14,V6 15])|_=>none,head:=fun i=>match i with| 7=>some [0,1,9,10]| 3=>some [0,1,9,10]| 5=>some [0,1,9,10]|_=>none,tail:=fun i e=>match i,e with| 7,.exit 0=>some [9]| 7,.ret=>some [8]| 3,.exit 0=>some [9]| 3,.exit 1=>some [0,1,9,10]| 3,.exit 2=>some [0,1,9,10]| 3,.ret=>some [8]| 5,.exit 0=>some [9]| 5,.exit 1=>some [0,1,9,10]| 5,.exit 4=>some [0,1,9,10]| 5,.ret=>some [8]|_,_=>none }
 | 154=>{ draw:=fun i=>match i with| 1=>some (14,[[],[],[],[],[],[],[4,5],[4,5,6],[],[],[8,9],[8,9,10],[0,1,4,5,6,7,8,9,10,11],[0,1,4,5,6,7,8,9,10,11,12],V6 14,V6 15])| 3=>some (12,[[],[],[0,1],V6 3,V6 4,V6 4,V6 6,V6 7,V6 4,V6 4,[0,1,2,3,8,9],[0,1,2,3,8,9,10],V6 12,V6 13])| 5=>some (12,[[],[],[0,1],V6 3,V6 4,V6 4,V6 6,V6 7,V6 4,V6 4,[0,1,2,3,8,9],[0,1,2,3,8,9,10],V6 12,V6 13,V6 14])| 8=>some (14,[[],[],[],[],[],[],[4,5],[4,5,6],[],[],[8,9],[8,9,10],[0,1,4,5,6,7,8,9,10,11],[0,1,4,5,6,7,8,9,10,11,12],V6 14,V6 15])| 10=>some (14,[[],[],[],[],[],[],[4,5],[4,5,6],[],[],[8,9],[8,9,10],[0,1,4,5,6,7,8,9,10,11],[0,1,4,5,6,7,8,9,10,11,12],V6 14,V6 15])| 13=>some (12,[[],[],[0,1],V6 3,V6 4,V6 4,V6 6,V6 7,V6 4,V6 4,[0,1,2,3,8,9],[0,1,2,3,8,9,10],V6 12,V6 13])| 15=>some (12,[[],[],[0,1],V6 3,V6 4,V6 4,V6 6,V6 7,V6 4,V6 4,[0,1,2,3,8,9],[0,1,2,3,8,9,10],V6 12,V6 13,V6 14])| 18=>some (14,[[],[],[],[],[],[],[4,5],[4,5,6],[],[],[8,9],[8,9,10],[0,1,4,5,6,7,8,9,10,11],[0,1,4,5,6,7,8,9,10,11,12],V6 14,V6 15])| 21=>some (14,[[],[],[],[],[],[],[4,5],[4,5,6],[],[],[8,9],[8,9,10],[0,1,4,5,6,7,8,9,10,11],[0,1,4,5,6,7,8,9,10,11,12],V6 14,V6 15])|_=>none,head:=fun i=>match i with| 3=>some [0,1,10,11]| 5=>some [0,1,10,11]| 17=>some [0,1,10,11]| 13=>some [0,1,10,11]| 15=>some [0,1,10,11]|_=>none,tail:=fun i e=>match i,e with| 3,.exit 0=>some [0,1,10,11]| 3,.ret=>some [8,9]| 5,.exit 2=>some [0,1,10,11]| 5,.ret=>some [8,9]| 17,.exit 4=>some [0,1,11]| 17,.ret=>some [8,9]| 13,.exit 4=>some [0,1,11]| 13,.exit 5=>some [0,1,10,11]| 13,.exit 6=>some [0,1,10,11]| 13,.ret=>some [8,9]| 15,.exit 4=>some [0,1,11]| 15,.exit 5=>some [0,1,10,11]| 15,.exit 8=>some [0,1,10,11]| 15,.ret=>some [8,9]|_,_=>none }
 | 157=>{ head:=fun i=>match i with| 11=>some [0,1,2,3,9,10]|_=>none,tail:=fun i e=>match i,e with| 11,.exit 0=>some [0,9,10]| 11,.ret=>some [8]|_,_=>none }
 | 159=>{ head:=fun i=>match i with| 5=>some [0,4,5]|_=>none,tail:=fun i e=>match i,e with| 5,.exit 0=>some [0,4]| 5,.ret=>some [2,3]|_,_=>none }
 | 163=>{ draw:=fun i=>match i with| 0=>some (14,[[],[0],[0,1],V6 3,V6 4,V6 5,[],V6 7,V6 8,[],[9],[9,10],[9,10,11],[9,10,11,12],V6 14,V6 15])|_=>none }
 | 164=>{ draw:=fun i=>match i with| 3=>some (18,[[],[0],[],V6 3,V6 4,V6 5,V6 5,V6 5,[0,1,2,3,4,6,7],V6 9,V6 10,V6 5,V6 5,V6 5,[0,1,2,3,4,12,13],[0,1,2,3,4,12,13,14],[0,1,2,3,4,11,12,13,14,15],[0,1,2,3,4,11,12,13,14,15,16],V6 18,V6 19])| 5=>some (12,[[],[],[],[1,2],V6 4,V6 5,[],[],[],[7,8],[6,7,8,9],[6,7,8,9,10],V6 12,V6 13])| 6=>some (22,[[],[],[],[1,2],[],[],[],[5,6],[],[],[],[9,10],[8,9,10,11],[8,9,10,11,12],[],[],[],[15,16],[14,15,16,17],[14,15,16,17,18],[0,1,2,3,8,9,10,11,12,13,14,15,16,17,18,19],[0,1,2,3,8,9,10,11,12,13,14,15,16,17,18,19,20],V6 22,V6 23])|_=>none,head:=fun i=>match i with| 1=>some [0,2,3,8]|_=>none,tail:=fun i e=>match i,e with| 1,.exit 0=>some []| 1,.ret=>some []|_,_=>none }
 | 166=>{ draw:=fun i=>match i with| 1=>some (7,[[],[0],[0,1],[],[3],[3,4],[3,4,5],V6 7,V6 8,V6 9])| 2=>some (7,[[],[0],[0,1],[],[3],[3,4],[3,4,5],V6 7,V6 8,V6 9])| 3=>some (7,[[],[0],[0,1],[],[3],[3,4],[3,4,5],V6 7,V6 8,V6 9])|_=>none }
 | 169=>{ head:=fun i=>match i with| 6=>some [0,1,6,7]|_=>none,tail:=fun i e=>match i,e with| 6,.exit 0=>some [0,1,6]| 6,.ret=>some [4]|_,_=>none }
 | 170=>{ head:=fun i=>match i with| 6=>some [0,1,5]|_=>none,tail:=fun i e=>match i,e with| 6,.exit 0=>some [4]| 6,.ret=>some [4]|_,_=>none }
 | 173=>{ draw:=fun i=>match i with| 3=>some (10,[[],[],[0,1],[],[],[],[5],[4,5,6],[3,4,5,6,7],V6 3,V6 10,V6 11])|_=>none }
 | 177=>{ draw:=fun i=>match i with| 1=>some (8,[[],[],[0,1],V6 3,[],[],[4,5],[4,5,6],V6 8])|_=>none }
 | 178=>{ head:=fun i=>match i with| 2=>some [2,4]|_=>none,tail:=fun i e=>match i,e with| 2,.exit 0=>some [2]| 2,.ret=>some [2]|_,_=>none }
 | 181=>{ head:=fun i=>match i with| 15=>some [0,1,5,6,7,8,9,10]|_=>none,tail:=fun i e=>match i,e with| 15,.exit 1=>some []| 15,.ret=>some [4]|_,_=>none }
 | 185=>{ draw:=fun i=>match i with| 7=>some (13,[[],[],[1],[],[],[4],[],[6],[6,7],[],[9],[0,1,2,6,7,8],[0,1,2,6,7,8,11],V6 13,V6 14])| 8=>some (13,[[],[],[1],[],[],[4],[],[6],[6,7],[],[9],[0,1,2,6,7,8],[0,1,2,6,7,8,11],V6 13,V6 14])| 9=>some (13,[[],[],[1],[],[],[4],[],[6],[6,7],[],[9],[0,1,2,6,7,8],[0,1,2,6,7,8,11],V6 13,V6 14])| 10=>some (13,[[],[],[1],[],[],[4],[],[6],[6,7],[],[9],[0,1,2,6,7,8],[0,1,2,6,7,8,11],V6 13,V6 14])| 17=>some (13,[[],[],[1],[],[],[4],[],[6],[6,7],[],[9],[0,1,2,6,7,8],[0,1,2,6,7,8,11],V6 13,V6 14])| 18=>some (13,[[],[],[1],[],[],[4],[],[6],[6,7],[],[9],[0,1,2,6,7,8],[0,1,2,6,7,8,11],V6 13,V6 14])| 23=>some (13,[[],[],[1],[],[],[4],[],[6],[6,7],[],[9],[0,1,2,6,7,8],[0,1,2,6,7,8,11],V6 13,V6 14])|_=>none,head:=fun i=>match i with| 1=>some [0,1,4]|_=>none,tail:=fun i e=>match i,e with| 1,.exit 0=>some [0,1,4]| 1,.ret=>some []|_,_=>none }
 | 186=>{ head:=fun i=>match i with| 11=>some [0,1,3,4,10,11,12,13,14,15,16]| 18=>some [0,1,3,4,10,11,12,13,17]|_=>none,tail:=fun i e=>match i,e with| 11,.exit 0=>some [0,1,3,4,10,11,12,13]| 11,.ret=>some [10,11]| 18,.exit 2=>some [0,1,3,4,10,11,12,13]| 18,.ret=>some [10,11]|_,_=>none }
 | 191=>{ head:=fun i=>match i with| 5=>some [0,1,5,6,7,8,9]| 11=>some [0,1,5,6,7,8,10]|_=>none,tail:=fun i e=>match i,e with| 5,.exit 0=>some [0,1,5,6,7,8]| 5,.ret=>some [4]| 11,.exit 2=>some []| 11,.ret=>some [4]|_,_=>none }
 | 197=>{ head:=fun i=>match i with| 3=>some [0,4,5]| 8=>some [4,6,7,8]|_=>none,tail:=fun i e=>match i,e with| 3,.exit 0=>some [0,4]| 3,.ret=>some [2,3]| 8,.exit 2=>some [4,6]| 8,.ret=>some [2,3]|_,_=>none }
 |_=>{}
theorem wK {α:Type}{p:α→Prop}:∀x∈([]:List α),p x:=fun x h=>by cases h
theorem aa {α:Type}{p:α→Prop}{a:α}{l:List α}(h:p a)(t:∀x∈l,p x):∀x∈a::l,p x:=fun x hx=>by
 rcases WE.1 hx with rfl|hx
 ·exact h
 ·exact t x hx
theorem Up:∀p∈tab.ts,m4 Tryz.prog p.1=some p.2:=aa (by kernel_rfl) (aa (by kernel_rfl) (aa (by kernel_rfl) (aa (by kernel_rfl) (aa (by kernel_rfl) (aa (by kernel_rfl) (aa (by kernel_rfl) (aa (by kernel_rfl) (aa (by kernel_rfl) (aa (by kernel_rfl) (aa (by kernel_rfl) (aa (by kernel_rfl) (aa (by kernel_rfl) (aa (by kernel_rfl) (aa (by kernel_rfl) (aa (by kernel_rfl) (aa (by kernel_rfl) (aa (by kernel_rfl) (aa (by kernel_rfl) (aa (by kernel_rfl) (aa (by kernel_rfl) (aa (by kernel_rfl) (aa (by kernel_rfl) (aa (by kernel_rfl) (aa (by kernel_rfl) (aa (by kernel_rfl) (aa (by kernel_rfl) (aa (by kernel_rfl) (aa (by kernel_rfl) (aa (by kernel_rfl) (aa (by kernel_rfl) (aa (by kernel_rfl) (aa (by kernel_rfl) (aa (by kernel_rfl) (aa (by kernel_rfl) (aa (by kernel_rfl) (aa (by kernel_rfl) (aa (by kernel_rfl) (aa (by kernel_rfl) (aa (by kernel_rfl) (aa (by kernel_rfl) (aa (by kernel_rfl) (aa (by kernel_rfl) (aa (by kernel_rfl) (aa (by kernel_rfl) (aa (by kernel_rfl) (aa (by kernel_rfl) (aa (by kernel_rfl) (aa (by kernel_rfl) (aa (by kernel_rfl) (aa (by kernel_rfl) (aa (by kernel_rfl) (aa (by kernel_rfl) (aa (by kernel_rfl) (aa (by kernel_rfl) (aa (by kernel_rfl) (aa (by kernel_rfl) (aa (by kernel_rfl) (aa (by kernel_rfl) (aa (by kernel_rfl) (aa (by kernel_rfl) (aa (by kernel_rfl) (aa (by kernel_rfl) (aa (by kernel_rfl) (aa (by kernel_rfl) (aa (by kernel_rfl) (aa (by kernel_rfl) (aa (by kernel_rfl) (aa (by kernel_rfl) (wK)))))))))))))))))))))))))))))))))))))))))))))))))))))))))))))))))))))
theorem TT:∀p∈tab.eqs,Oz Tryz.prog p.1=some p.2:=aa (by kernel_rfl) (aa (by kernel_rfl) (aa (by kernel_rfl) (aa (by kernel_rfl) (aa (by kernel_rfl) (aa (by kernel_rfl) (aa (by kernel_rfl) (aa (by kernel_rfl) (aa (by kernel_rfl) (aa (by kernel_rfl) (aa (by kernel_rfl) (wK)))))))))))
theorem T9:∀p∈tab.pls,rx Tryz.prog p.1=some p.2:=aa (by kernel_rfl) (aa (by kernel_rfl) (aa (by kernel_rfl) (aa (by kernel_rfl) (aa (by kernel_rfl) (aa (by kernel_rfl) (aa (by kernel_rfl) (aa (by kernel_rfl) (aa (by kernel_rfl) (aa (by kernel_rfl) (aa (by kernel_rfl) (aa (by kernel_rfl) (aa (by kernel_rfl) (aa (by kernel_rfl) (aa (by kernel_rfl) (aa (by kernel_rfl) (aa (by kernel_rfl) (aa (by kernel_rfl) (aa (by kernel_rfl) (aa (by kernel_rfl) (aa (by kernel_rfl) (aa (by kernel_rfl) (aa (by kernel_rfl) (aa (by kernel_rfl) (aa (by kernel_rfl) (aa (by kernel_rfl) (aa (by kernel_rfl) (aa (by kernel_rfl) (aa (by kernel_rfl) (aa (by kernel_rfl) (aa (by kernel_rfl) (aa (by kernel_rfl) (aa (by kernel_rfl) (aa (by kernel_rfl) (aa (by kernel_rfl) (aa (by kernel_rfl) (wK))))))))))))))))))))))))))))))))))))
theorem TP:∀p∈tab.ars,R6 Tryz.prog p.1=some p.2:=aa (by kernel_rfl) (wK)
theorem Tb:∀p∈tab.addr,I7 Tryz.prog p.1 p.2:=aa Oq (wK)
theorem Uc:bz Tryz.prog tab:=⟨Up,TT,T9,by kernel_rfl,TP,Tb⟩
theorem SA:∀p∈IV,Tryz.prog.funcs[p.1]?=some p.2:=aa Tryz.func3 (
aa Tryz.func4 (
aa Tryz.func5 (
aa Tryz.func6 (
aa Tryz.func7 (
aa Tryz.func8 (
aa Tryz.func9 (
aa Tryz.func10 (
aa Tryz.func11 (
aa Tryz.func12 (
aa Tryz.func13 (
aa Tryz.func14 (
aa Tryz.func15 (
aa Tryz.func16 (
aa Tryz.func17 (
aa Tryz.func18 (
aa Tryz.func19 (
aa Tryz.func20 (
aa Tryz.func21 (
aa Tryz.func22 (
aa Tryz.func23 (
aa Tryz.func24 (
aa Tryz.func25 (
aa Tryz.func26 (
aa Tryz.func27 (
aa Tryz.func28 (
aa Tryz.func29 (
aa Tryz.func30 (
aa Tryz.func31 (
aa Tryz.func32 (
aa Tryz.func33 (
aa Tryz.func34 (
aa Tryz.func35 (
aa Tryz.func36 (
aa Tryz.func37 (
aa Tryz.func38 (
aa Tryz.func39 (
aa Tryz.func40 (
aa Tryz.func41 (
aa Tryz.func42 (
aa Tryz.func43 (
aa Tryz.func44 (
aa Tryz.func45 (
aa Tryz.func46 (
aa Tryz.func47 (
aa Tryz.func48 (
aa Tryz.func49 (
aa Tryz.func50 (
aa Tryz.func51 (
aa Tryz.func52 (
aa Tryz.func53 (
aa Tryz.func54 (
aa Tryz.func55 (
aa Tryz.func56 (
aa Tryz.func57 (
aa Tryz.func58 (
aa Tryz.func59 (
aa Tryz.func60 (
aa Tryz.func61 (
aa Tryz.func62 (
aa Tryz.func63 (
aa Tryz.func64 (
aa Tryz.func65 (
aa Tryz.func66 (
aa Tryz.func67 (
aa Tryz.func68 (
aa Tryz.func69 (
aa Tryz.func70 (
aa Tryz.func71 (
aa Tryz.func72 (
aa Tryz.func73 (
aa Tryz.func74 (
aa Tryz.func75 (
aa Tryz.func76 (
aa Tryz.func77 (
aa Tryz.func78 (
aa Tryz.func79 (
aa Tryz.func80 (
aa Tryz.func81 (
aa Tryz.func82 (
aa Tryz.func83 (
aa Tryz.func84 (
aa Tryz.func85 (
aa Tryz.func86 (
aa Tryz.func87 (
aa Tryz.func88 (
aa Tryz.func89 (
aa Tryz.func90 (
aa Tryz.func91 (
aa Tryz.func92 (
aa Tryz.func93 (
aa Tryz.func94 (
aa Tryz.func95 (
aa Tryz.func96 (
aa Tryz.func97 (
aa Tryz.func98 (
aa Tryz.func99 (
aa Tryz.func100 (
aa Tryz.func101 (
aa Tryz.func102 (
aa Tryz.func103 (
aa Tryz.func104 (
aa Tryz.func105 (
aa Tryz.func106 (
aa Tryz.func107 (
aa Tryz.func108 (
aa Tryz.func109 (
aa Tryz.func110 (
aa Tryz.func111 (
aa Tryz.func112 (
aa Tryz.func113 (
aa Tryz.func114 (
aa Tryz.func115 (
aa Tryz.func116 (
aa Tryz.func117 (
aa Tryz.func118 (
aa Tryz.func119 (
aa Tryz.func120 (
aa Tryz.func121 (
aa Tryz.func122 (
aa Tryz.func123 (
aa Tryz.func124 (
aa Tryz.func125 (
aa Tryz.func126 (
aa Tryz.func127 (
aa Tryz.func128 (
aa Tryz.func129 (
aa Tryz.func130 (
aa Tryz.func131 (
aa Tryz.func132 (
aa Tryz.func133 (
aa Tryz.func134 (
aa Tryz.func135 (
aa Tryz.func136 (
aa Tryz.func137 (
aa Tryz.func138 (
aa Tryz.func139 (
aa Tryz.func140 (
aa Tryz.func141 (
aa Tryz.func142 (
aa Tryz.func143 (
aa Tryz.func144 (
aa Tryz.func145 (
aa Tryz.func146 (
aa Tryz.func147 (
aa Tryz.func148 (
aa Tryz.func149 (
aa Tryz.func150 (
aa Tryz.func151 (
aa Tryz.func152 (
aa Tryz.func153 (
aa Tryz.func154 (
aa Tryz.func155 (
aa Tryz.func156 (
aa Tryz.func157 (
aa Tryz.func158 (
aa Tryz.func159 (
aa Tryz.func160 (
aa Tryz.func161 (
aa Tryz.func163 (
aa Tryz.func164 (
aa Tryz.func165 (
aa Tryz.func166 (
aa Tryz.func167 (
aa Tryz.func168 (
aa Tryz.func169 (
aa Tryz.func170 (
aa Tryz.func171 (
aa Tryz.func172 (
aa Tryz.func173 (
aa Tryz.func174 (
aa Tryz.func177 (
aa Tryz.func178 (
aa Tryz.func179 (
aa Tryz.func181 (
aa Tryz.func182 (
aa Tryz.func183 (
aa Tryz.func184 (
aa Tryz.func185 (
aa Tryz.func186 (
aa Tryz.func187 (
aa Tryz.func188 (
aa Tryz.func190 (
aa Tryz.func191 (
aa Tryz.func192 (
aa Tryz.func193 (
aa Tryz.func194 (
aa Tryz.func195 (
aa Tryz.func197 (
aa Tryz.func198 (
aa Tryz.func199 (
wK)))))))))))))))))))))))))))))))))))))))))))))))))))))))))))))))))))))))))))))))))))))))))))))))))))))))))))))))))))))))))))))))))))))))))))))))))))))))))))))))))))))))))))))))))))))))))))))))
theorem QR : (IV.all fun p => !(p.2.name == "runtime.NumGoroutine") && !p.2.body.isNone) = true := by kernel_rfl
theorem SB : ∀ p ∈ IV, Tryz.prog.funcs[p.1]? = some p.2 ∧ (p.2.name == "runtime.NumGoroutine") = false ∧ p.2.body.isNone = false := fun p h => ⟨SA p h, by have q := Wt.1 QR p h; rw [Ww] at q; exact ⟨by simpa using q.1, by simpa using q.2⟩⟩
noncomputable def fns:FuncId→Option Func:=fun f=>IV.lookup f
theorem TX:kB Tryz.prog fns:=fun f fn h=>SB (f,fn) (iK h)
noncomputable def E:Env:=⟨tab,fns,hints,orc⟩
theorem kp {tab:Tab}{t:Nat}{a b:Y9}(h:a.size+b.size≤dC):zO tab .add t (.string a) (.string b)=some (.string (a++b)):=by show(if a.size+b.size≤dC then some (Value.string (a++b))else none)=_;rw[Wa h]
theorem Ux {f:FuncId}{xs:List (Sl Unit Unit)}{x:Value}(h:Does E f xs [(false,[.v x])]){w:World}(b:m8.ok w []){ad:List DSl}{a:List Value}(c:ad.map Sl.er=xs)(d:ArgsIn w ad a):
  Calls Tryz.prog f a.toArray w fun e w'=>e = .returned x∧RowKit.Below w.heap.size w w':=Does.plain Uc TX T8 h b c d
end
end Go.Proofs.YtjikhkndmohepaaGreatDoor.Am
