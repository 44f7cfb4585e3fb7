/- What the library's functions tell; the seat's types and functions. -/
import Derived.Test.YtlgddjncnedkgaaGreatDoorAmc
import Derived.Test.YtlgddjncnedkgaaGreatDoorShelf
import Derived.Lib.SplitLaws
import Derived.WalkKit
import Derived.Test.YtlgddjncnedkgaaGreatDoorProg
import Derived.KernelRfl
import Derived.RegionTactic
import Derived.ChangeAlike
import Derived.BigRegion
namespace Go.Proofs.YtlgddjncnedkgaaGreatDoor.Am
open Go
set_option linter.unusedVariables false
set_option linter.unusedSimpArgs false
section
open Go.Proofs
set_option maxRecDepth 100000
def UN (w : World) : Prop := (∃ m, w.cell? ⟨0, 0, none⟩ = some (.int .i64 m)) ∧ Lib.TabIs Tryz.prog w "internal/strconv.uint64pow10" .u64 Lib.pow10Tab
theorem MT {w w':World}{b:Nat}(h:w'.heap[b]?=w.heap[b]?)(o:Nat):w'.cell? ⟨b,o,none⟩=w.cell? ⟨b,o,none⟩:=by unfold World.cell?;simp only[h]
theorem Tm {P:Program}{name:String}{g:Nat}(h:P.globalNamed name=some g):g<P.globals.size:=by
 unfold Program.globalNamed at h;split at h
 ·rename_i b a;cases h;have:g∈(List.range P.globals.size).filter fun g=>(P.globals[g]?).any (·.name==name):=by rw[a];exact Xe g
  exact Xm.1 (XV.1 this).1
 ·cases h
theorem QO {P:Program}{w w':World}(h:∀b,b<P.globals.size→w'.heap[b]?=w.heap[b]?)(name:String):w'.var? P name=w.var? P name:=by
 unfold World.var?;cases q:P.globalNamed name with
 |none=>rfl
 |some g =>have a:g<P.globals.size:=Tm q;simp only[Wy,h g a]
noncomputable def nz:Base:=⟨Tryz.prog.globals.size,UN,fun {w w'} h b=>by obtain⟨⟨m,c⟩,a⟩:=b;have d:(0:Nat)<Tryz.prog.globals.size:=Yo (by kernel_rfl);refine⟨⟨m,by rw[MT (h 0 d)];exact c⟩,?_⟩;unfold Lib.TabIs at a ⊢;rw[QO h];exact a⟩
theorem wk {f:FuncId}{xs:List Value}{rd:List Value→eo}{w:World}{X:List Nat}{ad:List DSl}{a:List Value}{us:List (Sl Unit Unit)}{rs:URes}(c:us=xs.map fun x=>.one (.v x))(d:ad.map Sl.er=us)(b:ArgsOk w X ad a)
  {R:eo} (i:erR R=rs) (h:Calls Tryz.prog f xs.toArray w fun e w'=>∃v,e = .returned v∧GrewH X w w'∧RetOk w X w' [] [] R v):
  Calls Tryz.prog f a.toArray w fun e w'=>∃v od rd,e = .returned v∧GrewH X w w'∧erR (od++rd)=rs∧OutsOk w' ad a od∧RetOk w X w' (ad.flatMap c7) od rd v:=by
 subst c;obtain⟨j,k,l⟩:=Dj d b;have m:=b.1;subst j;refine h.mono ?_;rintro e w' ⟨v,rfl,g,n⟩;exact⟨v,[],R,rfl,g,i,OutsOk.nil' m l,by rw[k];exact n⟩
theorem M8 (X:List Nat)(w:World)(n:Nat):GrewH X w (w.drewN n):=⟨rfl,rfl,rfl,Xj _,fun b h _=>rfl⟩
def FS:List (Sl Unit Unit)→Option URes|[.one (.v (.string s)),.one (.v (.string a))]=>if s.size<4294967281∧1≤a.size then some [(false,[.s .own () 1 ((Lib.splitB a 0 (Lib.countB s a) s).map etS)])]else none|_=>none
def Pf:List (Sl Unit Unit)→Option URes|[.one (.v (.string s)),.one (.v (.string a))]=>if s.size<4294967281 then some [(false,[.v (.string ⟨(Lib.cut s.data.toList a.data.toList).1.toArray⟩)]),(false,[.v (.string ⟨(Lib.cut s.data.toList a.data.toList).2.1.toArray⟩)]),(false,[.v (.bool (Lib.cut s.data.toList a.data.toList).2.2)])]else none|_=>none
def t7:List (Sl Unit Unit)→Option URes|[.one (.v (.string s)),.one (.v (.string p))]=>some [(false,[.v (.string ⟨(Lib.trimPrefix s.data.toList p.data.toList).toArray⟩)]),(false,[.v (.bool (Lib.hasPrefix s.data.toList p.data.toList))])]|_=>none
def JZ:List (Sl Unit Unit)→Option URes|[.one (.v (.int .i64 n))]=>if -9223372036854775808≤n∧n≤9223372036854775807 then some [(false,[.v (.string ⟨(Lib.itoa n).toArray⟩)])]else none|_=>none
theorem Kp {us:List (Sl Unit Unit)}{rs:URes}(h:t7 us=some rs)(w:World)(X:List Nat)(ad:List DSl)(a:List Value)(f:nz.ok w X)(c:ad.map Sl.er=us)(d:ArgsOk w X ad a):
  Calls Tryz.prog 174 a.toArray w fun e w'=>∃v od rd,e = .returned v∧GrewH X w w'∧erR (od++rd)=rs∧OutsOk w' ad a od∧RetOk w X w' (ad.flatMap c7) od rd v:=by
 unfold t7 at h;split at h
 case h_2=>cases h
 rename_i s p;cases h;refine wk (xs:=[.string s,.string p]) (rd:=fun _=>[]) rfl c d (R:=[Value.string _,Value.bool _].map fun x=>(false,[.v x])) rfl ?_;refine(Tryz.strings_CutPrefix s p w).mono ?_;rintro e w' ⟨rfl,rfl⟩;exact⟨_,rfl,(Grew.refl w').x X,RetOk.tuple (fun x b=>by simp at b;rcases b with rfl|rfl<;>rfl) (by simp)⟩
theorem Um {us:List (Sl Unit Unit)}{rs:URes}(h:Pf us=some rs)(w:World)(X:List Nat)(ad:List DSl)(a:List Value)(c:nz.ok w X)(d:ad.map Sl.er=us)(f:ArgsOk w X ad a):
  Calls Tryz.prog 176 a.toArray w fun e w'=>∃v od rd,e = .returned v∧GrewH X w w'∧erR (od++rd)=rs∧OutsOk w' ad a od∧RetOk w X w' (ad.flatMap c7) od rd v:=by
 unfold Pf at h;split at h
 case h_2=>cases h
 rename_i s p;split at h
 case isFalse=>cases h
 rename_i hs;cases h;obtain⟨_,_,⟨m,g⟩,_⟩:=c;refine wk (xs:=[.string s,.string p]) (rd:=fun _=>[]) rfl d f (R:=[Value.string _,Value.string _,Value.bool _].map fun x=>(false,[.v x])) rfl ?_;refine(Tryz.strings_Cut s p m w hs g).mono ?_;rintro e w' ⟨rfl,n,rfl⟩;exact⟨_,rfl,M8 X w n,RetOk.tuple (fun x b=>by simp at b;rcases b with rfl|rfl|rfl<;>rfl) (by simp)⟩
theorem T0 {us:List (Sl Unit Unit)}{rs:URes}(h:JZ us=some rs)(w:World)(X:List Nat)(ad:List DSl)(a:List Value)(c:nz.ok w X)(d:ad.map Sl.er=us)(f:ArgsOk w X ad a):
  Calls Tryz.prog 168 a.toArray w fun e w'=>∃v od rd,e = .returned v∧GrewH X w w'∧erR (od++rd)=rs∧OutsOk w' ad a od∧RetOk w X w' (ad.flatMap c7) od rd v:=by
 unfold JZ at h;split at h
 case h_2=>cases h
 rename_i n;split at h
 case isFalse=>cases h
 rename_i hs;cases h;obtain⟨_,_,_,g⟩:=c;refine wk (xs:=[.int .i64 n]) (rd:=fun _=>[]) rfl d f (R:=[(false,[.v (.string ⟨(Lib.itoa n).toArray⟩)])]) rfl ?_;refine(Tryz.strconv_Itoa n hs.1 hs.2 w g).mono ?_;rintro e w' ⟨rfl,k,os,rfl⟩;refine⟨_,rfl,⟨rfl,rfl,rfl,by show _≤(w.heap++os).size;simp,fun b hb _=>?_⟩,RetOk.plain rfl⟩;show(w.heap++os)[b]?=_;rw[Yg hb]
theorem Tq {us:List (Sl Unit Unit)}{rs:URes}(h:FS us=some rs)(w:World)(X:List Nat)(ad:List DSl)(c:List Value)(d:nz.ok w X)(f:ad.map Sl.er=us)(g:ArgsOk w X ad c):
  Calls Tryz.prog 163 c.toArray w fun e w'=>∃v od rd,e = .returned v∧GrewH X w w'∧erR (od++rd)=rs∧OutsOk w' ad c od∧RetOk w X w' (ad.flatMap c7) od rd v:=by
 unfold FS at h;split at h
 case h_2=>cases h
 rename_i s a;split at h
 case isFalse=>cases h
 rename_i hs;cases h;obtain⟨_,_,⟨m,i⟩,_⟩:=d;have b:(Lib.splitB a 0 (Lib.countB s a) s).length=Lib.countB s a+1:=Lib.splitB_all a hs.2 0 _ s rfl;refine wk (xs:=[.string s,.string a]) (rd:=fun _=>[]) rfl f g (R:=[(false,[.s .own ⟨w.heap.size,0,Lib.countB s a+1,false,none⟩ 1 (bu Value.string (Lib.splitB a 0 (Lib.countB s a) s))])]) (by simp[erR,erL,aH,CB,etS]) ?_;refine(Tryz.strings_Split s a m w hs.1 i hs.2).mono ?_;rintro e w' ⟨rfl,rfl⟩;refine⟨_,rfl,(Grew.alloc w _).x X,?_⟩;have hb:(w.alloc (.cells ((Lib.splitB a 0 (Lib.countB s a) s).map Value.string).toArray 9)).heap[w.heap.size]?=some (.cells ((Lib.splitB a 0 (Lib.countB s a) s).map Value.string).toArray 9):=by show(w.heap.push _)[w.heap.size]?=_;simp
 have:=RetOk.freshRow (w:=w) (X:=X) (l:=Lib.splitB a 0 (Lib.countB s a) s) (cap:=Lib.countB s a+1) Value.string (fun _=>rfl) hb (fun j x k=>by simp[k]) (by omega) (by simp[b]) (fun q _ h=>by omega) (.inl (Xj _))
 rwa [b]at this
theorem PE {w:World}{k:Kd}{d:Dec}{l:List Zz}(h:Holds w (.s k d 1 (bu Value.string l)))(g:l≠[]):d.addr=some ⟨d.b,d.o,none⟩∧d.b<w.heap.size∧l.length≤d.cap∧∀(j:Nat) x,l[j]?=some x→w.cell? ⟨d.b,d.o+j,none⟩=some (.string x):=by
 have i:0<l.length:=Zc.2 g;generalize m:bu Value.string l=rows at *;have a:rows.length=l.length:=by rw[←m];simp[bu]
 cases h with
 |e=>simp at a;omega
 |s _ _ _ _ q1 q c e f n z A r B =>
  refine⟨by rw[Dec.addr_none q,q1];rfl,d8 n,by omega,fun j x t=>?_⟩;have u:rows[j]?=some [.v (.string x)]:=by rw[←m];unfold bu;rw[WQ,t];rfl
  obtain⟨y,p,hv⟩:=r j _ 0 _ u rfl;have v:d.o+j*1+0=d.o+j:=by omega
  rw[v]at p;unfold World.cell?;simp only[n,Option.isSome_none,W2,Xs];rw[p,show y=_ from hv.1]
def J0:List (Sl Unit Unit)→Option URes
 |[.one (.s .far () 1 rows),.one (.v (.string a))]=>(vp rows).bind fun xs=>if xs.length≤140737488355328∧(Lib.join (xs.map (·.data.toList)) a.data.toList).length≤140737488355328 then some [(false,[.v (.string ⟨(Lib.join (xs.map (·.data.toList)) a.data.toList).toArray⟩)])]else none
 |_=>none
theorem T1 {us:List (Sl Unit Unit)}{rs:URes}(h:J0 us=some rs)(w:World)(X:List Nat)(ad:List DSl)(t:List Value)(P:nz.ok w X)(i:ad.map Sl.er=us)(B:ArgsOk w X ad t):
  Calls Tryz.prog 156 t.toArray w fun e w'=>∃v od rd,e = .returned v∧GrewH X w w'∧erR (od++rd)=rs∧OutsOk w' ad t od∧RetOk w X w' (ad.flatMap c7) od rd v:=by
 unfold J0 at h;split at h
 case h_2=>cases h
 rename_i rows f;rw[WA]at h;obtain⟨l,D,h⟩:=h;split at h
 case isFalse=>cases h
 rename_i hs;cases h
 match ad,i,B with
 |[a,b],i,B =>
  simp only[WT,Xc,X4,YF]at i;obtain⟨d,C,rfl,H⟩:=Cy i.1;have hb:=RX i.2;subst hb;rw[←H]at D;have m:=My D;subst m;obtain⟨j,u,Q⟩:=B
  match t,j,u with
  |[y,z],j,u =>
   have A:=u 0 _ y rfl rfl;have F:y = .slice d.addr (bu Value.string l).length d.cap:=A.val [];have hz:z = .string f:=((u 1 _ z rfl rfl).val []).1;have n:(bu Value.string l).length=l.length:=by simp[bu]
   rw[n]at F;subst F;subst hz;have I:Holds w (.s .far d 1 (bu Value.string l)):=A.mem.1 _ (by simp[an]);have k:∀(x:Value)(w':World),x.oneCell'=true→Grew w w'→∃v od rd,Ending.returned x = .returned v∧GrewH X w w'∧erR (od++rd)=[(false,[.v x])]∧OutsOk w' [.one (.s .far d 1 (bu Value.string l)),.one (.v (.string f))] [.slice d.addr l.length d.cap,.string f] od∧RetOk w X w' ([(.one (.s .far d 1 (bu Value.string l)):DSl),.one (.v (.string f))].flatMap c7) od rd v :=
    fun x w' J g=>⟨x,[],[(false,[.v x])],rfl,g.x X,rfl,OutsOk.nil' rfl (fun s hs=>by simp at hs;rcases hs with rfl|rfl<;>rfl),RetOk.plain J⟩
   by_cases p:l=[]
   ·subst p;refine(Tryz.strings_Join_none d.addr d.cap f w).mono ?_;rintro e w' ⟨rfl,rfl⟩;exact k _ _ rfl (Grew.refl _)
   ·obtain⟨G,K,L,M⟩:=PE I p;rw[G];rw[G]at k;refine(Tryz.strings_Join d.b d.o d.cap l f w M K hs.1 L hs.2).mono ?_;rintro e w' ⟨rfl,g1,N,g3,g4,O⟩;exact k _ _ rfl ⟨g1,N,g3,g4,O⟩
  |[],j,_=>cases j
  |[y],j,_=>simp at j
  |y::z::q::r,j,_=>simp at j
 |[],i,_=>simp at i
 |[a],i,_=>simp at i
 |a::b::c::r,i,_=>simp at i
def J4:List (Sl Unit Unit)→Option URes|[.one (.s .own () 1 rows)]=>(na rows).bind fun l=>if l.length<4611686018427387904 then some [(false,[.s .own () 1 ((l.mergeSort fun x y=>decide (x≤y)).map etI)])]else none|_=>none
theorem PD {w:World}(os:Array Obj):Grew w (Go.Sort.grow w os):=⟨rfl,rfl,rfl,by show _≤(w.heap++os).size;simp,fun b hb=>by show(w.heap++os)[b]?=_;rw[Yg hb]⟩
theorem RetOk.unit {w w':World}{X:List Nat}{d:Dec}{rows:List (List DT)}(f:Holds w' (.s .own d 1 rows))(g:OwnT w' (.s .own d 1 rows))(hf:(T.s .own d 1 rows:DT).fine=true)(e:bl (.s .own d 1 rows)=[]∨bl (.s .own d 1 rows)=[d.b])(j:∀b∈bl (.s .own d 1 rows),(w.heap.size≤b∨b∈X)∧b<w'.heap.size):
  RetOk w X w' [] [(false,[.s .own d 1 rows])] [] (.tuple #[]) where
 val := .inr (.inl ⟨by decide, #[],rfl,rfl,fun i r v h=>by simp at h⟩)
 fine:=fun r a t c=>by rw[WX,WG]at a;subst a;rw[WG]at c;subst c;exact hf
 holds:=fun r a t c=>by rw[WX,WG]at a;subst a;rw[WG]at c;subst c;exact f
 own:=fun r a t c _=>by rw[WX,WG]at a;subst a;rw[WG]at c;subst c;exact g
 once:=fun b=>by
  have:bG ([(false,[(.s .own d 1 rows:DT)])]++[])=bl (.s .own d 1 rows):=by simp[bG,ownR,T.isOwn]
  rw[this];rcases e with h|h<;>rw[h]<;>simp[XL]
  split<;>omega
 new:=fun b hb=>by
  have:bG ([(false,[(.s .own d 1 rows:DT)])]++[])=bl (.s .own d 1 rows):=by simp[bG,ownR,T.isOwn]
  rw[this]at hb;exact j b hb
theorem Uc {us:List (Sl Unit Unit)}{rs:URes}(h:J4 us=some rs)(w:World)(X:List Nat)(ad:List DSl)(s:List Value)(U:nz.ok w X)(f:ad.map Sl.er=us)(t:ArgsOk w X ad s):
  Calls Tryz.prog 105 s.toArray w fun e w'=>∃v od rd,e = .returned v∧GrewH X w w'∧erR (od++rd)=rs∧OutsOk w' ad s od∧RetOk w X w' (ad.flatMap c7) od rd v:=by
 unfold J4 at h;split at h
 case h_2=>cases h
 rename_i rows;rw[WA]at h;obtain⟨l,G,h⟩:=h;split at h
 case isFalse=>cases h
 rename_i hs;cases h
 match ad,f,t with
 |[a],f,t =>
  simp only[WT,Xc,X4,YF]at f;obtain⟨d,u,rfl,P⟩:=Cy f;rw[←P]at G;have p:=zi G;subst p;obtain⟨m,B,V⟩:=t
  match s,m,B with
  |[y],m,B =>
   have A:=B 0 _ y rfl rfl;have q:(bu (Value.int .i64) l).length=l.length:=by simp[bu]
   have H:y = .slice d.addr (bu (Value.int .i64) l).length d.cap:=A.val [];rw[q]at H;subst H;have C:Holds w (.s .own d 1 (bu (Value.int .i64) l)):=A.mem.1 _ (by simp[an]);have D:OwnT w (.s .own d 1 (bu (Value.int .i64) l)):=A.mem.2.1 _ (by simp[rootsO]) rfl;have c:∀b∈bl (.s .own d 1 (bu (Value.int .i64) l)),b∈X∧b<w.heap.size:=fun b hb=>A.own b (by simpa[ownBl,ownR,T.isOwn]using hb)
   by_cases i:l=[]
   ·subst i;refine(Tryz.slices_Sort_int_none d.addr d.cap w).mono ?_;rintro e w' ⟨rfl,rfl⟩;refine⟨_,[(false,[.s .own d 1 []])],[],rfl,(Grew.refl _).x X,by simp[erR,erL,aH],⟨_,[],rfl,⟨⟨_,rfl,rfl⟩,rfl⟩,rfl⟩,RetOk.unit C D rfl ?_ fun b hb=>⟨.inr (c b hb).1,(c b hb).2⟩⟩;rw[cS];cases d.nil<;>simp
   ·obtain⟨Q,I,W,J,R⟩:=GW (Value.int .i64) i C D;have j:∀l',bl (.s .own d 1 (bu (Value.int .i64) l'))=[d.b]:=fun l'=>Kg _ _ R _
    have K:d.b∈X:=(c d.b (by rw[j];simp)).1;rw[J];refine(Tryz.slices_Sort_int d.b d.o d.cap l w Q I hs).mono ?_;rintro e w' ⟨rfl,n,os,rfl⟩;have F:(l.mergeSort fun x y=>decide (x≤y)).length=l.length:=Y4 l;obtain⟨L,M,k⟩:=OI (Value.int .i64) (fun _=>rfl) i C D n F (List.prefix_refl _);generalize Go.Sort.putRow (Value.int .i64) (Go.Sort.ahead w n) d.b d.o (l.mergeSort fun x y=>decide (x≤y)).toArray=N at L M k;have g:=PD (w:=N) os;have O:GrewH X w (Go.Sort.grow N os):=⟨by rw[g.os,k.os],by rw[g.tape,k.tape],by rw[g.output,k.output],Xu k.size g.size,fun b hb S=>by rw[g.same b (Xf hb k.size),k.same b hb (by simp;rintro rfl;exact S K)]⟩
    refine⟨_,[(false,[.s .own d 1 (bu (Value.int .i64) (l.mergeSort fun x y=>decide (x≤y)))])],[],rfl,O,?_,⟨_,[],rfl,⟨⟨_,rfl,?_⟩,rfl⟩,rfl⟩,RetOk.unit (L.frame fun b _ hb=>g.same b hb) (M.frame fun b _ hb=>g.same b hb) rfl (.inr (j _)) fun b hb=>?_⟩
    ·simp[erR,erL,aH,CB,etI]
    ·show _=Value.slice d.addr _ _;rw[J];simp[bu]
    ·rw[j,WG]at hb;subst hb;exact⟨.inr K,Xf I O.size⟩
  |[],m,_=>cases m
  |y::z::r,m,_=>simp at m
 |[],f,_=>simp at f
 |a::b::r,f,_=>simp at f
theorem RetOk.used {w w':World}{X:List Nat}{d:Dec}{rows:List (List DT)}{v:Value}(hv:VT (.s .own d 1 rows) v)(f:Holds w' (.s .own d 1 rows))(g:OwnT w' (.s .own d 1 rows))(hf:(T.s .own d 1 rows:DT).fine=true)(e:bl (.s .own d 1 rows)=[]∨bl (.s .own d 1 rows)=[d.b])(i:∀b∈bl (.s .own d 1 rows),(w.heap.size≤b∨b∈X)∧b<w'.heap.size):
  RetOk w X w' [] [(false,[.any])] [(false,[.s .own d 1 rows])] v where
 val := .inl ⟨_,rfl,by simp only[VPart,W2,Xs];exact⟨_,rfl,hv⟩⟩
 fine:=fun r c t a=>by
  simp only[XF,WZ,Yh,Y0]at c;rcases c with rfl|rfl
  ·rw[WG]at a;subst a;rfl
  ·rw[WG]at a;subst a;exact hf
 holds:=fun r c t a=>by
  simp only[XF,WZ,Yh,Y0]at c;rcases c with rfl|rfl
  ·rw[WG]at a;subst a;exact .any
  ·rw[WG]at a;subst a;exact f
 own:=fun r c t a j=>by
  simp only[XF,WZ,Yh,Y0]at c;rcases c with rfl|rfl
  ·rw[WG]at a;subst a;cases j
  ·rw[WG]at a;subst a;exact g
 once:=fun b=>by
  have:bG ([(false,[(.any:DT)])]++[(false,[(.s .own d 1 rows:DT)])])=bl (.s .own d 1 rows):=by simp[bG,ownR,T.isOwn]
  rw[this];rcases e with h|h<;>rw[h]<;>simp[XL]
  split<;>omega
 new:=fun b hb=>by
  have:bG ([(false,[(.any:DT)])]++[(false,[(.s .own d 1 rows:DT)])])=bl (.s .own d 1 rows):=by simp[bG,ownR,T.isOwn]
  rw[this]at hb;exact i b hb
def yT:List (Sl Unit Unit)→Option URes|[.one (.s .own () 1 rows)]=>(na rows).bind fun l=>if l.length≤9223372036854775807 then some [(false,[.any]),(false,[.s .own () 1 ((Lib.compact l).map etI)])]else none|_=>none
theorem SO (a:Option Addr)(n c:Nat)(h:n≤c)(w:World):Calls Tryz.prog 166 #[.slice a n c] w fun e w'=>e = .returned (.slice a n n)∧w'=w:=by
 go_enter Tryz.func166,Tryz.ntmps166
 go_wp2
 all_goals (go_ret;exact⟨rfl,rfl⟩)
theorem MU (l:List Int):(Lib.compact l).length≤l.length:=Lib.compact_length_le l
theorem Pe {us:List (Sl Unit Unit)}{rs:URes}(h:yT us=some rs)(w:World)(X:List Nat)(ad:List DSl)(q:List Value)(S:nz.ok w X)(f:ad.map Sl.er=us)(s:ArgsOk w X ad q):
  Calls Tryz.prog 167 q.toArray w fun e w'=>∃v od rd,e = .returned v∧GrewH X w w'∧erR (od++rd)=rs∧OutsOk w' ad q od∧RetOk w X w' (ad.flatMap c7) od rd v:=by
 unfold yT at h;split at h
 case h_2=>cases h
 rename_i rows;rw[WA]at h;obtain⟨l,D,h⟩:=h;split at h
 case isFalse=>cases h
 rename_i hs;cases h
 match ad,f,s with
 |[a],f,s =>
  simp only[WT,Xc,X4,YF]at f;obtain⟨d,t,rfl,L⟩:=Cy f;rw[←L]at D;have m:=zi D;subst m;obtain⟨j,u,U⟩:=s
  match q,j,u with
  |[y],j,u =>
   have A:=u 0 _ y rfl rfl;have p:(bu (Value.int .i64) l).length=l.length:=by simp[bu]
   have F:y = .slice d.addr (bu (Value.int .i64) l).length d.cap:=A.val [];rw[p]at F;subst F;have x:Holds w (.s .own d 1 (bu (Value.int .i64) l)):=A.mem.1 _ (by simp[an]);have B:OwnT w (.s .own d 1 (bu (Value.int .i64) l)):=A.mem.2.1 _ (by simp[rootsO]) rfl;have c:∀b∈bl (.s .own d 1 (bu (Value.int .i64) l)),b∈X∧b<w.heap.size:=fun b hb=>A.own b (by simpa[ownBl,ownR,T.isOwn]using hb)
   by_cases g:l=[]
   ·subst g;refine(Tryz.slices_Compact_int_empty d.addr d.cap w).mono ?_;rintro e w' ⟨rfl,rfl⟩;refine⟨_,[(false,[.any])],[(false,[.s .own d 1 []])],rfl,(Grew.refl _).x X,by simp[erR,erL,aH,Lib.compact,Lib.compactUpTo];rfl,⟨_,[],rfl,⟨⟨_,rfl,rfl⟩,rfl⟩,rfl⟩,RetOk.used rfl x B rfl ?_ fun b hb=>⟨.inr (c b hb).1,(c b hb).2⟩⟩;rw[cS];cases d.nil<;>simp
   ·obtain⟨M,N,O,G,P⟩:=GW (Value.int .i64) g x B;have i:∀l',bl (.s .own d 1 (bu (Value.int .i64) l'))=[d.b]:=fun l'=>Kg _ _ P _
    have H:d.b∈X:=(c d.b (by rw[i];simp)).1;rw[G];refine(Tryz.slices_Compact_int d.b d.o d.cap l w M hs O).mono ?_;rintro e w' ⟨rfl,n,rfl⟩;have C:(Lib.compact l++List.replicate (l.length-(Lib.compact l).length) 0).length=l.length:=by have:=MU l;simp;omega
    obtain⟨I,J,k⟩:=OI (Value.int .i64) (fun _=>rfl) g x B n C (l2:=Lib.compact l) (List.prefix_append _ _);generalize Go.Sort.putRow (Value.int .i64) (Go.Sort.ahead w n) d.b d.o (Lib.compact l++List.replicate (l.length-(Lib.compact l).length) 0).toArray=Q at I J k;have K:GrewH X w Q:=⟨k.os,k.tape,k.output,k.size,fun b hb R=>k.same b hb (by simp;rintro rfl;exact R H)⟩
    refine⟨_,[(false,[.any])],[(false,[.s .own d 1 (bu (Value.int .i64) (Lib.compact l))])],rfl,K,?_,⟨_,[],rfl,⟨⟨_,rfl,rfl⟩,rfl⟩,rfl⟩,RetOk.used ?_ I J rfl (.inr (i _)) fun b hb=>?_⟩
    ·simp[erR,erL,aH,CB,etI];rfl
    ·show _=Value.slice d.addr _ _;rw[G];simp[bu]
    ·rw[i,WG]at hb;subst hb;exact⟨.inr H,Xf N K.size⟩
  |[],j,_=>cases j
  |y::z::r,j,_=>simp at j
 |[],f,_=>simp at f
 |a::b::r,f,_=>simp at f
def JW:List (Sl Unit Unit)→Option URes|[.one (.s .own () 1 rows)]=>(na rows).bind fun l=>some [(false,[.any]),(false,[.s .own () 1 (l.map etI)])]|_=>none
theorem SN {w:World}{d:Dec}{l:List Int}(i:Holds w (.s .own d 1 (bu (Value.int .i64) l)))(j:OwnT w (.s .own d 1 (bu (Value.int .i64) l))):l.length≤d.cap∧Holds w (.s .own { d with cap:=l.length } 1 (bu (Value.int .i64) l))∧OwnT w (.s .own { d with cap:=l.length } 1 (bu (Value.int .i64) l)):=by
 generalize k:bu (Value.int .i64) l=rows at *;have a:rows.length=l.length:=by rw[←k];simp[bu]
 cases j with
 |nil _ _ b g h =>
  have m:l.length=0:=by rw[←a];rfl
  exact⟨by omega,.e _ _ _,.nil _ _ b g m⟩
 |s _ _ _ b g n o lo hi h C p q r =>
  refine⟨by omega,?_,.s _ _ _ b g n o lo hi h (by simp;omega) (by simp at p ⊢;omega) (fun x t u=>q x t (by simp at u ⊢;omega)) r⟩;cases i with
  |e=>exact .e _ _ _
  |s _ _ _ _ q1 v c e f y D z A B=>exact .s _ _ _ _ q1 v c e f y (by simp;omega) z A B
theorem TQ {us:List (Sl Unit Unit)}{rs:URes}(h:JW us=some rs)(w:World)(X:List Nat)(ad:List DSl)(k:List Value)(F:nz.ok w X)(c:ad.map Sl.er=us)(m:ArgsOk w X ad k):
  Calls Tryz.prog 166 k.toArray w fun e w'=>∃v od rd,e = .returned v∧GrewH X w w'∧erR (od++rd)=rs∧OutsOk w' ad k od∧RetOk w X w' (ad.flatMap c7) od rd v:=by
 unfold JW at h;split at h
 case h_2=>cases h
 rename_i rows;rw[WA]at h;obtain⟨l,q,h⟩:=h;cases h
 match ad,c,m with
 |[a],c,m =>
  simp only[WT,Xc,X4,YF]at c;obtain⟨d,n,rfl,t⟩:=Cy c;rw[←t]at q;have j:=zi q;subst j;obtain⟨i,o,G⟩:=m
  match k,i,o with
  |[y],i,o =>
   have A:=o 0 _ y rfl rfl;have f:(bu (Value.int .i64) l).length=l.length:=by simp[bu]
   have s:y = .slice d.addr (bu (Value.int .i64) l).length d.cap:=A.val [];rw[f]at s;subst s;have u:Holds w (.s .own d 1 (bu (Value.int .i64) l)):=A.mem.1 _ (by simp[an]);have x:OwnT w (.s .own d 1 (bu (Value.int .i64) l)):=A.mem.2.1 _ (by simp[rootsO]) rfl;have g:∀b∈bl (.s .own d 1 (bu (Value.int .i64) l)),b∈X∧b<w.heap.size:=fun b hb=>A.own b (by simpa[ownBl,ownR,T.isOwn]using hb)
   obtain⟨B,C,D⟩:=SN u x;have p:bl (.s .own { d with cap:=l.length } 1 (bu (Value.int .i64) l))=bl (.s .own d 1 (bu (Value.int .i64) l)):=by rw[cS,cS]
   refine(SO d.addr l.length d.cap B w).mono ?_;rintro e w' ⟨rfl,rfl⟩;refine⟨_,[(false,[.any])],[(false,[.s .own { d with cap:=l.length } 1 (bu (Value.int .i64) l)])],rfl,(Grew.refl _).x X,?_,⟨_,[],rfl,⟨⟨_,rfl,rfl⟩,rfl⟩,rfl⟩,RetOk.used ?_ C D rfl ?_ fun b hb=>?_⟩
   ·simp[erR,erL,aH,CB,etI];rfl
   ·show _=Value.slice _ _ _;rw[f];rfl
   ·rw[cS,Ij];cases d.nil<;>simp
   ·rw[p]at hb;exact⟨.inr (g b hb).1,(g b hb).2⟩
  |[],i,_=>cases i
  |y::z::r,i,_=>simp at i
 |[],c,_=>simp at c
 |a::b::r,c,_=>simp at c
def orc (_:Sem1):Sem1:=fun f us=>match f with
 | 156=>J0 us
 | 163=>FS us
 | 105=>J4 us
 | 166=>JW us
 | 167=>yT us
 | 168=>JZ us
 | 174=>t7 us
 | 176=>Pf us
 |_=>none
theorem UC:∀C,CallsOk Tryz.prog nz C→CallsOk Tryz.prog nz (orc C):=by
 intro C _ f us rs h w X ad a b c d;unfold orc at h;split at h
 ·exact T1 h w X ad a b c d
 ·exact Tq h w X ad a b c d
 ·exact Uc h w X ad a b c d
 ·exact TQ h w X ad a b c d
 ·exact Pe h w X ad a b c d
 ·exact T0 h w X ad a b c d
 ·exact Kp h w X ad a b c d
 ·exact Um h w X ad a b c d
 ·cases h
end
section
open Go.Proofs
set_option maxRecDepth 100000
set_option maxHeartbeats 4000000 in
theorem O7:J6 Tryz.prog 151 [0,1,2,3,4]:=fun b w=>by
 go_enter Tryz.func151,Tryz.ntmps151
 go_wp2
 go_region
 go_wp2
 refine bodyPost_ret (v := .agg #[.pointer (some ⟨b.1,b.2,none⟩),.pointer (some ⟨b.1,b.2+1,none⟩),.pointer (some ⟨b.1,b.2+2,none⟩),.pointer (some ⟨b.1,b.2+3,none⟩),.pointer (some ⟨b.1,b.2+4,none⟩)]) (by simp[results,Tryz.results151,go_sem]) rfl ⟨rfl,(Grew.alloc _ _).trans (Grew.drew _)⟩
end
section
open Go.Proofs
set_option maxRecDepth 100000
def tab:Tab where
 ts:=Tc [([2,3,176],⟨1,8,[tI (0:Int)],.int .i64⟩),
  ([4],⟨1,1,[tB false],.bool⟩),
  ([5,6,255,256],⟨1,1,[tY (0:Int)],.int .u8⟩),
  ([7,8],⟨4,24,[tI (0:Int),tI (0:Int),tB false,tY (0:Int)],.struct [0,1,2,3]⟩),
  ([9,10,11],⟨1,16,[tS ByteArray.empty],.str⟩),
  ([12,168,186,195],⟨1,8,[.v (.int .u64 0)],.int .u64⟩),
  ([13,14],⟨2,24,[tS ByteArray.empty,.v (.int .u64 0)],.struct [0,1]⟩),
  ([21,258,259],⟨1,4,[.v (.int .i32 0)],.int .i32⟩),
  ([22],⟨1,24,[.s .own () 3 []],.slice 70⟩),
  ([23],⟨1,24,[.s .own () 9 []],.slice 76⟩),
  ([24],⟨1,24,[.s .own () 5 []],.slice 81⟩),
  ([25,26,31,32],⟨5,88,[.s .own () 3 [],.s .own () 9 [],.s .own () 5 [],tI (0:Int),tI (0:Int)],.struct [0,1,2,3,4]⟩),
  ([28],⟨1,24,[.s .own () 3 []],.slice 94⟩),
  ([29],⟨1,24,[.s .own () 9 []],.slice 56⟩),
  ([30],⟨1,24,[.s .own () 5 []],.slice 49⟩),
  ([45,46,78],⟨2,16,[tI (0:Int),tI (0:Int)],.struct [0,1]⟩),
  ([47],⟨1,24,[.s .own () 4 []],.slice 91⟩),
  ([48,49,80,81],⟨5,64,[tS ByteArray.empty,tI (0:Int),tI (0:Int),tI (0:Int),.s .own () 4 []],.struct [0,1,3,4]⟩),
  ([52],⟨1,24,[.s .own () 5 []],.slice 110⟩),
  ([53,54,73,74],⟨6,80,[tS ByteArray.empty,tS ByteArray.empty,tI (0:Int),tI (0:Int),tB false,.s .own () 5 []],.struct [0,1,2,3,4,5]⟩),
  ([55,56,75,76],⟨9,104,[tS ByteArray.empty,tS ByteArray.empty,tI (0:Int),tI (0:Int),tB false,.s .own () 5 [],tB false,tI (0:Int),tI (0:Int)],.struct [0,6,7,8]⟩),
  ([69,70,94],⟨3,32,[tI (0:Int),tI (0:Int),tS ByteArray.empty],.struct [0,1,2]⟩),
  ([72],⟨1,24,[.s .own () 5 []],.slice 154⟩),
  ([79],⟨1,24,[.s .own () 4 []],.slice 147⟩),
  ([88],⟨1,24,[.s .own () 1 []],.slice 3⟩),
  ([90,91,147],⟨4,32,[tI (0:Int),tI (0:Int),tI (0:Int),tI (0:Int)],.struct [0,1,2,3]⟩),
  ([108],⟨1,24,[.s .own () 1 []],.slice 9⟩),
  ([109,110,154],⟨5,72,[tS ByteArray.empty,tS ByteArray.empty,tI (0:Int),tB false,.s .own () 1 []],.struct [0,1,2,3,4]⟩),
  ([113],⟨1,24,[.s .own () 1 []],.slice 4⟩),
  ([132],⟨1,24,[.s .own () 1 []],.slice 5⟩),
  ([135,136],⟨5,120,[.s .own () 1 [],.s .own () 1 [],.s .own () 1 [],.s .own () 1 [],.s .own () 1 []],.struct [0,1,2,3,4]⟩),
  ([184],⟨1,4,[.v (.int .u32 0)],.int .u32⟩),
  ([242,243],⟨2,2,[tY (0:Int),tY (0:Int)],.struct [0,1]⟩)]
 eqs:=Tc [([45,46,78],[(0,3),(1,3)]),
  ([69,70,94],[(0,3),(1,3),(2,9)]),
  ([90,91,147],[(0,3),(1,3),(2,3),(3,3)]),
  ([242,243],[(0,5),(1,5)])]
 pls:=Tc [([7,8,90,91,147],[(0,1),(1,1),(2,1),(3,1)]),
  ([13,14,45,46,78,242,243],[(0,1),(1,1)]),
  ([25,26,31,32,109,110,135,136,154],[(0,1),(1,1),(2,1),(3,1),(4,1)]),
  ([48,49,80,81],[(0,1),(1,2),(3,1),(4,1)]),
  ([53,54,73,74],[(0,1),(1,1),(2,1),(3,1),(4,1),(5,1)]),
  ([55,56,75,76],[(0,6),(6,1),(7,1),(8,1)]),
  ([69,70,94],[(0,1),(1,1),(2,1)])]
 io:=[(9,0),(23,0),(27,0),(28,0),(29,0),(58,0),(59,0),(82,0),(88,0),(105,0),(166,0),(167,0)]
 gv:=[166,167]
 addr:=[(151,[0,1,2,3,4])]
 ars:=[(191,5)]
 pw:=[(23,[5,0,0,0]),(82,[5,0]),(121,[6,0,0]),(151,[5]),(169,[2,0]),(170,[2,0]),(171,[2]),(179,[2,0])]
def UZ:List Nat:=[3,4,5,6,7,8,9,10,11,12,13,14,15,16,17,18,19,20,21,22,23,24,25,26,27,28,29,30,31,32,33,34,35,36,37,38,39,40,41,42,43,44,45,46,47,48,49,50,51,52,53,54,55,56,57,58,59,60,61,62,63,64,65,66,67,68,69,70,71,72,73,74,75,76,77,78,79,80,81,82,83,84,85,86,87,88,89,90,91,92,93,94,95,96,97,98,99,100,101,102,103,104,105,106,107,108,109,110,111,112,113,114,115,116,117,118,119,120,121,122,123,124,125,126,127,128,129,130,131,132,133,134,135,136,137,138,139,140,141,142,143,144,145,146,147,148,149,150,151,152,153,154,155,156,157,158,159,160,161,162,163,164,165,166,167,168,169,170,171,172,173,174,175,176,177,179,180,181,182,183,184,185,188,189,191,192,193,194,195,196,197,198,200,201,202,203,204,205,207,208,209]
def hints:FuncId→kK| 3=>{ take:=tkL [(9,6),(9,10),(10,3),(11,5),(11,9),(17,0),(28,6),(28,10),(29,0),(29,1),(32,0)],draw:=drL [(14,3,[[],[],[1],Wv 3,Wv 4])] }| 5=>{ take:=tkL [(1,3),(5,0),(5,1),(6,20),(6,24),(8,0),(8,1),(9,3),(9,5),(10,0),(10,1)],late:=hdL [(6,[0,1,2,3,4,5,6,7,8,9,10,11,12,13,14,15,16,17,18,19,20,23,21,22,24,25])],keep:=hdL [(6,[3,4,8,10,11,12])],draw:=drL [(6,21,[[],[0],[],Wv 3,Wv 4,Wv 5,[],[6],[],[6,7,8],[6,7,8,9],[],[11],[],[11,12,13],[11,12,13,14],[11,12,13,14,15],[],[11,12,13,14,15,16,17],Wv 19,Wv 20,[],Wv 21,Wv 21,Wv 23,Wv 25])] }| 6=>{ take:=tkL [(2,4),(3,4),(4,4),(7,0),(7,1)] }| 7=>{ take:=tkL [(1,3),(3,0),(3,2)] }| 11=>{ head:=hdL [(5,[0,1,5])],tail:=tlL [(5,[(1,[1]),(0,[4])])] }| 12=>{ head:=hdL [(5,[0,1,5])],tail:=tlL [(5,[(1,[1]),(0,[4])])] }| 13=>{ head:=hdL [(5,[0,1,5])],tail:=tlL [(5,[(1,[1]),(0,[4])])] }| 14=>{ take:=tkL [(1,5),(2,1),(7,4),(8,0),(8,1),(8,2),(8,4),(9,0),(9,2),(10,1),(14,0),(14,7),(14,9),(15,0),(15,2),(16,0),(16,1)],head:=hdL [(4,[1,2,3,4]),(12,[1,2,6,7])],tail:=tlL [(4,[(1,[1,2,3]),(0,[2])]),(12,[(3,[1,2,6]),(0,[2])])] }| 15=>{ head:=hdL [(2,[1,2,5])],tail:=tlL [(2,[(1,[]),(0,[4])])] }| 16=>{ head:=hdL [(2,[1,2,3,7])],tail:=tlL [(2,[(1,[]),(0,[6])])] }| 17=>{ take:=tkL [(2,1),(4,6),(5,3),(10,1),(14,1),(15,1),(15,3)],draw:=drL [(9,6,[[],[0],[],[],[2,3],[2,3,4],Wv 6,Wv 7,Wv 8,Wv 9]),(11,7,[[],[0],[],[],[2,3],[2,3,4],[],Wv 7,Wv 8])],head:=hdL [(7,[3,4,6,9,10,11,12])],tail:=tlL [(7,[(1,[3,4,6,9,11]),(0,[6,7])])] }| 19=>{ take:=tkL [(1,3),(6,0),(6,1)],head:=hdL [(3,[0,3,4])],tail:=tlL [(3,[(1,[3]),(0,[2])])] }| 20=>{ take:=tkL [(1,3),(5,8),(6,0),(6,1)],head:=hdL [(3,[0,3,4])],tail:=tlL [(3,[(1,[3]),(0,[2])])] }| 21=>{ take:=tkL [(1,3),(5,8),(6,0),(6,1)],head:=hdL [(3,[0,3,4])],tail:=tlL [(3,[(1,[3]),(0,[2])])] }| 22=>{ take:=tkL [(1,7),(1,9),(5,4),(6,2),(6,3),(6,6),(11,4),(11,7),(13,0),(13,1)],draw:=drL [(1,9,[[],[0],[0,1],[],[3],[],[5],Wv 7,[],Wv 9]),(11,5,[[],[0],[],[2],[2,3],Wv 5,Wv 6,Wv 7])],head:=hdL [(3,[1,2,3,17,18,19]),(9,[2,3,35,36,37])],tail:=tlL [(3,[(1,[1,2,3]),(0,[2])]),(9,[(3,[2,3]),(0,[2])])] }| 23=>{ take:=tkL [(5,12),(5,16),(8,5),(8,7)],late:=hdL [(5,[0,1,2,3,4,5,6,7,8,9,10,11,12,15,13,14,16,17]),(8,[])],keep:=hdL [(5,[0,3,10,11]),(8,[0,10,12])],draw:=drL [(1,10,[[],[0],[0,1],[],Wv 4,[],[5],[5,6],[],[],Wv 10,Wv 11,Wv 12]),(5,13,[[],[],[1],[1,2],[1,2,3],[],[1,2,3,4,5],[1,2,3,4,5,6],[],[],[8,9],Wv 11,Wv 12,[],Wv 13,Wv 13,Wv 15,Wv 17]),(8,6,[[],[0],[0,1],Wv 3,[],[],Wv 6,Wv 7])] }| 24=>{ draw:=drL [(6,8,[[],[],[0,1],Wv 3,[],[],[4,5],[4,5,6],Wv 8,Wv 9])],head:=hdL [(4,[0,1,5])],tail:=tlL [(4,[(1,[]),(0,[4])])] }| 25=>{ draw:=drL [(6,8,[[],[],[0,1],Wv 3,[],[],[4,5],[4,5,6],Wv 8,Wv 9])],head:=hdL [(4,[0,1,5])],tail:=tlL [(4,[(1,[]),(0,[4])])] }| 26=>{ draw:=drL [(6,8,[[],[],[0,1],Wv 3,[],[],[4,5],[4,5,6],Wv 8,Wv 9])],head:=hdL [(4,[0,1,5])],tail:=tlL [(4,[(1,[]),(0,[4])])] }| 27=>{ head:=hdL [(2,[0,1,5])],tail:=tlL [(2,[(1,[0,1]),(0,[0,4])])] }| 28=>{ head:=hdL [(2,[0,1,5])],tail:=tlL [(2,[(1,[0,1]),(0,[0,4])])] }| 29=>{ head:=hdL [(2,[0,1,5])],tail:=tlL [(2,[(1,[0,1]),(0,[0,4])])] }| 30=>{ draw:=drL [(10,7,[[],[],[0,1],Wv 3,Wv 4,[],[5],Wv 7])],head:=hdL [(2,[0,1,5])],tail:=tlL [(2,[(1,[1]),(0,[4])])] }| 31=>{ draw:=drL [(4,8,[[],[],[0,1],Wv 3,Wv 4,Wv 5,[],[6],Wv 8]),(7,8,[[],[],[0,1],Wv 3,Wv 4,Wv 5,[],[6],Wv 8])],head:=hdL [(2,[0,1,5])],tail:=tlL [(2,[(1,[1]),(0,[4])])] }| 32=>{ draw:=drL [(4,7,[[],[],[0,1],Wv 3,Wv 4,[],[5],Wv 7])],head:=hdL [(2,[0,1,5])],tail:=tlL [(2,[(1,[1]),(0,[4])])] }| 36=>{ take:=tkL [(1,1),(6,5),(7,0),(7,1),(7,2),(7,4),(8,0),(8,2),(9,0),(9,1)],head:=hdL [(3,[1,2,3,4])],tail:=tlL [(3,[(1,[1,2,3]),(0,[2])])] }| 37=>{ take:=tkL [(1,5),(2,0),(2,1)] }| 40=>{ take:=tkL [(3,3)],draw:=drL [(7,6,[[],[0],[],[],[2,3],[2,3,4],Wv 6,Wv 7,Wv 8,Wv 9])],head:=hdL [(5,[4,8,9,10,11])],tail:=tlL [(5,[(1,[8,9]),(0,[6,7])])] }| 41=>{ take:=tkL [(1,1),(3,0),(3,1),(4,3),(5,4),(9,6),(18,0),(18,4),(19,0),(19,1)],draw:=drL [(9,5,[[],[],[],[1,2],[1,2,3],Wv 5,Wv 6]),(13,29,[[],[],[],[1,2],[1,2,3],[],[],[],[6,7],[6,7,8],[5,6,7,8,9],[5,6,7,8,9,10],[5,6,7,8,9,10,11],[5,6,7,8,9,10,11,12],[5,6,7,8,9,10,11,12],[5,6,7,8,9,10,11,12,13,14],[5,6,7,8,9,10,11,12,13,14,15],[5,6,7,8,9,10,11,12],[5,6,7,8,9,10,11,12,13,14,15,16,17],[5,6,7,8,9,10,11,12,13,14,15,16,17,18],[5,6,7,8,9,10,11,12,13,14,15,16,17,18,19],[5,6,7,8,9,10,11,12,13,14,15,16,17,18,19,20],[5,6,7,8,9,10,11,12,13,14,15,16,17,18,19,20],[5,6,7,8,9,10,11,12,13,14,15,16,17,18,19,20],[5,6,7,8,9,10,11,12,13,14,15,16,17,18,19,20,22,23],[5,6,7,8,9,10,11,12,13,14,15,16,17,18,19,20,22,23,24],[5,6,7,8,9,10,11,12,13,14,15,16,17,18,19,20,21,22,23,24,25],[5,6,7,8,9,10,11,12,13,14,15,16,17,18,19,20,21,22,23,24,25,26],[5,6,7,8,9,10,11,12,13,14,15,16,17,18,19,20,21,22,23,24,25,26,27],Wv 29,Wv 30])],head:=hdL [(7,[1,2,5,6,7,8]),(11,[1,2,5,6,7,8,9,10]),(15,[5,7,11])],tail:=tlL [(7,[(1,[5,7]),(0,[4])]),(11,[(1,[5,7]),(2,[1,2,5,6,7,8]),(3,[1,2,5,6,7,8]),(0,[4])]),(15,[(5,[5]),(0,[4])])] }| 42=>{ take:=tkL [(1,3),(3,0),(3,1),(4,3),(12,0),(12,1)],draw:=drL [(8,11,[[],[],[],[],[2,3],[2,3,4],Wv 6,Wv 7,Wv 8,Wv 8,Wv 9,Wv 11]),(9,8,[[],[0],[0,1],Wv 3,[0,1],[0,1],[0,1,4,5],[0,1,4,5,6],Wv 8,Wv 9,Wv 10,Wv 11,Wv 12]),(10,6,[[],[0],[],[],[2,3],[2,3,4],Wv 6,Wv 7,Wv 8]),(11,6,[[],[0],[],[],[2,3],[2,3,4],Wv 6,Wv 7,Wv 8])],head:=hdL [(6,[2,4,5,6,7])],tail:=tlL [(6,[(1,[4,5]),(0,[4])])] }| 43=>{ head:=hdL [(2,[0,1,5])],tail:=tlL [(2,[(1,[]),(0,[4])])] }| 45=>{ take:=tkL [(2,4),(6,0),(6,1)] }| 46=>{ take:=tkL [(5,4),(6,0),(6,1)] }| 47=>{ take:=tkL [(3,3)] }| 48=>{ take:=tkL [(6,4),(7,2),(7,3),(7,6),(9,0),(9,1)],head:=hdL [(4,[2,3,9,10,11])],tail:=tlL [(4,[(1,[2,3]),(0,[2])])] }| 49=>{ take:=tkL [(1,4),(2,0),(2,1)] }| 52=>{ take:=tkL [(2,1),(4,6),(5,3),(6,0),(10,1),(15,0),(15,1)],head:=hdL [(7,[3,4,6,9,11,45,46,47])],tail:=tlL [(7,[(1,[3,6,11]),(0,[6,7])])] }| 57=>{ head:=hdL [(4,[0,3])],tail:=tlL [(4,[(1,[3]),(0,[2])])] }| 58=>{ head:=hdL [(2,[0,1,5])],tail:=tlL [(2,[(1,[0,1]),(0,[0,4])])] }| 59=>{ head:=hdL [(2,[0,1,5])],tail:=tlL [(2,[(1,[0,1]),(0,[0,4])])] }| 60=>{ draw:=drL [(4,7,[[],[],[0,1],Wv 3,Wv 4,[],[5],Wv 7]),(7,7,[[],[],[0,1],Wv 3,Wv 4,[],[5],Wv 7])],head:=hdL [(2,[0,1,5])],tail:=tlL [(2,[(1,[1]),(0,[4])])] }| 61=>{ head:=hdL [(2,[0,1,5])],tail:=tlL [(2,[(1,[1]),(0,[4])])] }| 64=>{ take:=tkL [(1,3),(1,7),(2,0)],draw:=drL [(10,7,[[],[0],[0,1],Wv 3,[],[4],[4,5],Wv 7,Wv 8])],head:=hdL [(6,[1,7])],tail:=tlL [(6,[(1,[1]),(0,[2])])] }| 65=>{ draw:=drL [(7,30,[[],[0],[0,1],Wv 3,Wv 4,Wv 5,Wv 6,Wv 5,[0,1,2,3,4,7],Wv 5,[0,1,2,3,4,7,8,9],[0,1,2,3,4,7,8,9,10],[0,1,2,3,4,7,8,9,10,11],[0,1,2,3,4,7,8,9,10,11,12],Wv 14,Wv 15,Wv 16,Wv 17,Wv 18,Wv 19,Wv 20,Wv 21,Wv 22,Wv 23,Wv 24,Wv 25,Wv 26,Wv 24,[0,1,2,3,4,5,6,7,8,9,10,11,12,13,14,15,16,17,18,19,20,21,22,23,27],[0,1,2,3,4,5,6,7,8,9,10,11,12,13,14,15,16,17,18,19,20,21,22,23,27,28],Wv 30,Wv 31,Wv 32,Wv 33,Wv 34,Wv 35,Wv 36,Wv 37])],head:=hdL [(4,[2,3,5])],tail:=tlL [(4,[(1,[]),(0,[4])])] }| 66=>{ take:=tkL [(1,1),(9,0),(9,4),(10,0),(10,1)],draw:=drL [(8,15,[[],[0],[],Wv 3,Wv 4,Wv 5,[],Wv 7,Wv 8,[],[9],[],[9,10,11],[9,10,11,12],[9,10,11,12,13],Wv 15])],head:=hdL [(3,[1,2,5,6]),(6,[1,2,5,6,7])],tail:=tlL [(3,[(1,[5]),(0,[4])]),(6,[(1,[5]),(2,[1,2,5,6]),(3,[1,2,5,6]),(0,[4])])] }| 67=>{ take:=tkL [(1,1),(15,0),(15,4),(17,0),(17,1)],head:=hdL [(3,[0,3,4]),(6,[0,3,4,5]),(11,[0,3,4,5,6,7])],tail:=tlL [(3,[(1,[3]),(0,[2])]),(6,[(1,[3]),(2,[0,3,4]),(3,[0,3,4]),(0,[2])]),(11,[(1,[3]),(2,[0,3,4]),(3,[0,3,4]),(4,[0,3,4,5]),(5,[0,3,4,5,6]),(0,[2])])] }| 68=>{ take:=tkL [(7,4),(8,0),(8,1)] }| 70=>{ take:=tkL [(1,3),(6,0),(6,1)],head:=hdL [(3,[0,3,4])],tail:=tlL [(3,[(1,[3]),(0,[2])])] }| 71=>{ take:=tkL [(3,3)] }| 72=>{ take:=tkL [(3,3)] }| 73=>{ head:=hdL [(2,[0,1,7,8])],tail:=tlL [(2,[(1,[]),(0,[4])])] }| 75=>{ head:=hdL [(2,[0,1,7,8])],tail:=tlL [(2,[(1,[]),(0,[4])])] }| 79=>{ head:=hdL [(3,[3,5,10,11,17,18,19])],tail:=tlL [(3,[(1,[10,11]),(0,[8,9])])] }| 81=>{ take:=tkL [(9,0),(9,4),(13,0),(13,1)],head:=hdL [(3,[1,2,5,11,12,13]),(6,[1,2,5,7,11,12,13,19,20,21])],tail:=tlL [(3,[(1,[5]),(0,[4])]),(6,[(1,[5]),(2,[1,2,5,11,12,13]),(3,[1,2,5,11,12,13]),(0,[4])])] }| 82=>{ draw:=drL [(4,10,[[],[],[1],[1,2],[],Wv 5,Wv 6,Wv 7,Wv 7,Wv 8,Wv 10])],head:=hdL [(2,[0,3,9,10,11])],tail:=tlL [(2,[(1,[0]),(0,[0])])] }| 83=>{ head:=hdL [(2,[0,1,7,8])],tail:=tlL [(2,[(1,[]),(0,[4])])] }| 87=>{ draw:=drL [(6,8,[[],[],[0,1],Wv 3,[],[],[4,5],[4,5,6],Wv 8,Wv 9])],head:=hdL [(4,[0,1,5])],tail:=tlL [(4,[(1,[]),(0,[4])])] }| 88=>{ head:=hdL [(2,[0,1,5])],tail:=tlL [(2,[(1,[0,1]),(0,[0,4])])] }| 89=>{ draw:=drL [(4,6,[[],[],[0,1],Wv 3,[],[4],Wv 6])],head:=hdL [(2,[0,1,5])],tail:=tlL [(2,[(1,[1]),(0,[4])])] }| 90=>{ head:=hdL [(5,[0,1,5])],tail:=tlL [(5,[(1,[1]),(0,[4])])] }| 91=>{ take:=tkL [(1,2),(1,5),(3,1),(4,2),(5,1),(6,5),(6,9),(7,5),(7,9),(8,5),(8,9),(9,5),(9,9),(10,1),(10,5),(10,9),(15,1),(16,0),(16,1)],head:=hdL [(12,[2,6,7,8])],tail:=tlL [(12,[(1,[2,6]),(0,[2,3])])] }| 92=>{ draw:=drL [(3,22,[[],[0],[0,1],Wv 3,[],[4],[0,1,2,4,5],Wv 7,Wv 8,[],[9],[0,1,2,4,5,6,9,10],Wv 12,Wv 13,[],[14],[0,1,2,4,5,6,9,10,11,14,15],Wv 17,Wv 18,[],[19],[0,1,2,4,5,6,9,10,11,14,15,16,19,20],Wv 22,Wv 23,Wv 24])] }| 93=>{ head:=hdL [(4,[0,3])],tail:=tlL [(4,[(1,[]),(0,[2])])] }| 94=>{ draw:=drL [(7,33,[[],[],[1],[],[1,2,3],[1,2,3,4],Wv 6,Wv 7,Wv 8,Wv 9,Wv 10,Wv 9,Wv 12,Wv 13,Wv 9,[0,1,2,3,4,5,6,7,8,14],Wv 16,Wv 17,Wv 18,Wv 19,Wv 20,Wv 21,Wv 22,Wv 23,Wv 22,[0,1,2,3,4,5,6,7,8,9,10,11,12,13,14,15,16,17,18,19,20,21,24],Wv 26,Wv 27,Wv 22,[0,1,2,3,4,5,6,7,8,9,10,11,12,13,14,15,16,17,18,19,20,21,28],Wv 22,[0,1,2,3,4,5,6,7,8,9,10,11,12,13,14,15,16,17,18,19,20,21,28,29,30],[0,1,2,3,4,5,6,7,8,9,10,11,12,13,14,15,16,17,18,19,20,21,28,29,30,31],Wv 33,Wv 34,Wv 35])],head:=hdL [(5,[0,5,6])],tail:=tlL [(5,[(1,[]),(0,[4])])] }| 96=>{ head:=hdL [(2,[0,1,5])],tail:=tlL [(2,[(1,[]),(0,[4])])] }| 97=>{ take:=tkL [(1,3),(5,8),(6,0),(6,1)],head:=hdL [(3,[0,3,4])],tail:=tlL [(3,[(1,[3]),(0,[2])])] }| 100=>{ draw:=drL [(17,6,[[],[0],[0,1],[],[3],[3,4],Wv 6,Wv 7])],head:=hdL [(6,[1,40,41,42]),(11,[1,40,41,42,59,60,61])],tail:=tlL [(6,[(1,[1]),(0,[2])]),(11,[(1,[1]),(2,[1,40,41,42]),(3,[1,40,41,42]),(0,[2])])] }| 101=>{ head:=hdL [(4,[2,3,34,35])],tail:=tlL [(4,[(1,[]),(0,[4])])] }| 102=>{ take:=tkL [(5,0),(5,6),(8,0),(8,1)],head:=hdL [(3,[2,5,13,14,15])],tail:=tlL [(3,[(1,[5]),(0,[4])])] }| 103=>{ take:=tkL [(4,1),(5,4)],head:=hdL [(2,[1,3])],tail:=tlL [(2,[(1,[2]),(0,[2])])] }| 106=>{ draw:=drL [(6,8,[[],[],[0,1],Wv 3,[],[],[4,5],[4,5,6],Wv 8,Wv 9])],head:=hdL [(4,[0,1,5])],tail:=tlL [(4,[(1,[]),(0,[4])])] }| 109=>{ take:=tkL [(1,1),(3,0),(3,1),(9,1),(12,0),(12,7),(15,1),(16,0),(16,1)],head:=hdL [(6,[0,4,5,6])],tail:=tlL [(6,[(1,[4]),(0,[2,3])])] }| 110=>{ take:=tkL [(1,3),(2,2),(8,1),(13,1),(18,0),(18,4),(19,0),(19,1)],head:=hdL [(4,[1,2,8,9,10]),(10,[1,2,8,9,10,12,13,15]),(15,[2,8,16,17])],tail:=tlL [(4,[(1,[1,2,8]),(0,[6,7])]),(10,[(1,[1,2,8]),(2,[1,2,8,9,10]),(3,[1,2,8,9,10]),(0,[6,7])]),(15,[(5,[16]),(0,[6,7])])] }| 112=>{ head:=hdL [(5,[0,5,6])],tail:=tlL [(5,[(1,[5]),(0,[4])])] }| 114=>{ take:=tkL [(6,4),(7,0),(7,1)] }| 115=>{ head:=hdL [(2,[0,3])],tail:=tlL [(2,[(1,[0]),(0,[2])])] }| 116=>{ take:=tkL [(1,2),(1,6),(2,0)] }| 117=>{ head:=hdL [(4,[1,28,29,30])],tail:=tlL [(4,[(1,[]),(0,[2])])] }| 119=>{ draw:=drL [(2,14,[[],[0],[0,1],Wv 3,Wv 4,Wv 5,Wv 6,Wv 5,[0,1,2,3,4,7],Wv 5,[0,1,2,3,4,7,8,9],[0,1,2,3,4,7,8,9,10],[0,1,2,3,4,7,8,9,10,11],[0,1,2,3,4,7,8,9,10,11,12],Wv 14,Wv 15,Wv 16,Wv 17,Wv 18,Wv 19,Wv 20,Wv 21,Wv 22])] }| 120=>{ draw:=drL [(1,10,[[],[],[],[2],[1,2,3],Wv 5,Wv 6,Wv 7,Wv 8,Wv 8,Wv 10,Wv 11,Wv 12])] }| 121=>{ head:=hdL [(2,[0,2,10,11,12])],tail:=tlL [(2,[(1,[]),(0,[6])])] }| 122=>{ head:=hdL [(2,[0,1,7,8])],tail:=tlL [(2,[(1,[]),(0,[4])])] }| 123=>{ draw:=drL [(17,12,[[],[0],[0,1],Wv 3,Wv 3,[0,1,2,4],Wv 6,Wv 7,Wv 3,Wv 3,[0,1,2,8,9],[0,1,2,8,9,10],Wv 12,Wv 13,Wv 14])],head:=hdL [(2,[0,1,2,3,8,9])],tail:=tlL [(2,[(1,[]),(0,[])])] }| 126=>{ head:=hdL [(5,[0,1,5])],tail:=tlL [(5,[(1,[1]),(0,[4])])] }| 127=>{ take:=tkL [(1,1),(7,0),(7,7),(9,0),(9,1)],head:=hdL [(4,[0,1,5,6,7])],tail:=tlL [(4,[(1,[5]),(0,[4])])] }| 128=>{ take:=tkL [(6,2),(12,7)] }| 129=>{ draw:=drL [(4,21,[[],[],[0,1],Wv 3,[],[],Wv 6,Wv 7,Wv 8,Wv 9,Wv 10,Wv 11,Wv 12,Wv 12,[0,1,2,3,4,5,6,7,8,9,10,11,13],Wv 15,Wv 16,Wv 12,Wv 12,[0,1,2,3,4,5,6,7,8,9,10,11,17,18],[0,1,2,3,4,5,6,7,8,9,10,11,17,18,19],Wv 21,Wv 22,Wv 23])],head:=hdL [(2,[0,1,2,7])],tail:=tlL [(2,[(1,[0]),(0,[6])])] }| 130=>{ head:=hdL [(5,[0,3,4])],tail:=tlL [(5,[(1,[3,4]),(0,[2])])] }| 131=>{ take:=tkL [(1,3),(6,0),(6,1)],head:=hdL [(3,[0,3,4])],tail:=tlL [(3,[(1,[3]),(0,[2])])] }| 132=>{ take:=tkL [(1,2),(1,5),(3,1),(8,6),(8,9),(10,1),(11,1),(11,3),(13,0),(13,1)],head:=hdL [(6,[2,4,6,24,25])],tail:=tlL [(6,[(1,[2,6]),(0,[2,3])])] }| 133=>{ take:=tkL [(8,0),(8,3),(13,0),(13,5),(15,0),(15,1),(15,5),(17,0)],head:=hdL [(5,[1,4,13,14]),(11,[1,4,7,13,14,28,29,30])],tail:=tlL [(5,[(1,[4]),(0,[2,3])]),(11,[(1,[4]),(2,[4,13,14]),(3,[1,4,7,13,14]),(0,[2,3])])] }| 136=>{ draw:=drL [(4,13,[[],[],[0,1],Wv 3,Wv 4,Wv 4,Wv 6,Wv 7,Wv 4,Wv 4,[0,1,2,3,9],[0,1,2,3,8,9,10],[0,1,2,3,8,9,10,11],Wv 13,Wv 14]),(6,16,[[],[],[],[],[3],[],[],[6],[5,6,7],[5,6,7,8],[],[],[10,11],[10,11,12],[0,1,5,6,7,8,9,10,11,12,13],[0,1,5,6,7,8,9,10,11,12,13,14],Wv 16,Wv 17])],head:=hdL [(1,[0,1,2,6]),(4,[0,1,2,6,7])],tail:=tlL [(1,[(1,[]),(0,[])]),(4,[(1,[]),(2,[0,1,2,6]),(3,[0,1,2,6]),(0,[])])] }| 137=>{ draw:=drL [(10,18,[[],[],[],[],[],[3,4],[],[],[],[7,8],[6,7,8,9],[6,7,8,9,10],[],[],[12,13],[12,13,14],[0,1,6,7,8,9,10,11,12,13,14,15],[0,1,6,7,8,9,10,11,12,13,14,15,16],Wv 18,Wv 19])],head:=hdL [(4,[0,6,7,8,9]),(8,[0,6,7,10])],tail:=tlL [(4,[(1,[0,6,7,8]),(0,[])]),(8,[(3,[]),(0,[])])] }| 138=>{ draw:=drL [(10,18,[[],[],[],[],[],[3,4],[],[],[],[7,8],[6,7,8,9],[6,7,8,9,10],[],[],[12,13],[12,13,14],[0,1,6,7,8,9,10,11,12,13,14,15],[0,1,6,7,8,9,10,11,12,13,14,15,16],Wv 18,Wv 19])],head:=hdL [(5,[0,1,6,7,8,9])],tail:=tlL [(5,[(1,[]),(0,[])])] }| 140=>{ draw:=drL [(3,14,[[],[],[],[],[],[],[4,5],[4,5,6],[],[],[8,9],[8,9,10],[0,1,4,5,6,7,8,9,10,11],[0,1,4,5,6,7,8,9,10,11,12],Wv 14,Wv 15])],head:=hdL [(2,[0,6,7])],tail:=tlL [(2,[(1,[]),(0,[])])] }| 141=>{ draw:=drL [(5,13,[[],[],[0,1],Wv 3,Wv 4,Wv 4,Wv 6,Wv 7,Wv 4,Wv 4,[0,1,2,3,9],[0,1,2,3,8,9,10],[0,1,2,3,8,9,10,11],Wv 13,Wv 14,Wv 15]),(11,16,[[],[],[],[],[3],[],[],[6],[5,6,7],[5,6,7,8],[],[],[10,11],[10,11,12],[0,1,5,6,7,8,9,10,11,12,13],[0,1,5,6,7,8,9,10,11,12,13,14],Wv 16,Wv 17]),(16,9,[[],[],[0,1],Wv 3,[],[],[5],[4,5,6],[4,5,6,7],Wv 9,Wv 10]),(17,16,[[],[],[],[],[3],[],[],[6],[5,6,7],[5,6,7,8],[],[],[10,11],[10,11,12],[0,1,5,6,7,8,9,10,11,12,13],[0,1,5,6,7,8,9,10,11,12,13,14],Wv 16,Wv 17]),(22,9,[[],[],[0,1],Wv 3,[],[],[5],[4,5,6],[4,5,6,7],Wv 9,Wv 10]),(23,16,[[],[],[],[],[3],[],[],[6],[5,6,7],[5,6,7,8],[],[],[10,11],[10,11,12],[0,1,5,6,7,8,9,10,11,12,13],[0,1,5,6,7,8,9,10,11,12,13,14],Wv 16,Wv 17])],head:=hdL [(3,[0,1,2,7,8]),(5,[0,1,2,7,8]),(14,[0,1,2,7,8,9]),(20,[0,1,2,7,8,10])],tail:=tlL [(3,[(1,[]),(0,[6])]),(5,[(1,[]),(2,[0,1,2,7,8]),(3,[0,1,2,7,8]),(0,[6])]),(14,[(1,[]),(2,[0,1,2,7,8]),(5,[0,1,2,7,8]),(0,[6])]),(20,[(1,[]),(2,[0,1,2,7,8]),(7,[0,1,2,7,8]),(0,[6])])] }| 143=>{ draw:=drL [(1,14,[[],[],[],[],[],[],[4,5],[4,5,6],[],[],[8,9],[8,9,10],[0,1,4,5,6,7,8,9,10,11],[0,1,4,5,6,7,8,9,10,11,12],Wv 14,Wv 15]),(3,12,[[],[],[0,1],Wv 3,Wv 4,Wv 4,Wv 6,Wv 7,Wv 4,Wv 4,[0,1,2,3,8,9],[0,1,2,3,8,9,10],Wv 12,Wv 13,Wv 14]),(5,12,[[],[],[0,1],Wv 3,Wv 4,Wv 4,Wv 6,Wv 7,Wv 4,Wv 4,[0,1,2,3,8,9],[0,1,2,3,8,9,10],Wv 12,Wv 13]),(8,14,[[],[],[],[],[],[],[4,5],[4,5,6],[],[],[8,9],[8,9,10],[0,1,4,5,6,7,8,9,10,11],[0,1,4,5,6,7,8,9,10,11,12],Wv 14,Wv 15])],head:=hdL [(7,[0,1,9,10]),(3,[0,1,9,10]),(5,[0,1,9,10])],tail:=tlL [(7,[(1,[9]),(0,[8])]),(3,[(1,[9]),(2,[0,1,9,10]),(3,[0,1,9,10]),(0,[8])]),(5,[(1,[9]),(2,[0,1,9,10]),(5,[0,1,9,10]),(0,[8])])] }| 144=>{ draw:=drL [(1,14,[[],[],[],[],[],[],[4,5],[4,5,6],[],[],[8,9],[8,9,10],[0,1,4,5,6,7,8,9,10,11],[0,1,4,5,6,7,8,9,10,11,12],Wv 14,Wv 15]),(3,12,[[],[],[0,1],Wv 3,Wv 4,Wv 4,Wv 6,Wv 7,Wv 4,Wv 4,[0,1,2,3,8,9],[0,1,2,3,8,9,10],Wv 12,Wv 13]),(5,12,[[],[],[0,1],Wv 3,Wv 4,Wv 4,Wv 6,Wv 7,Wv 4,Wv 4,[0,1,2,3,8,9],[0,1,2,3,8,9,10],Wv 12,Wv 13,Wv 14]),(8,14,[[],[],[],[],[],[],[4,5],[4,5,6],[],[],[8,9],[8,9,10],[0,1,4,5,6,7,8,9,10,11],[0,1,4,5,6,7,8,9,10,11,12],Wv 14,Wv 15]),(10,14,[[],[],[],[],[],[],[4,5],[4,5,6],[],[],[8,9],[8,9,10],[0,1,4,5,6,7,8,9,10,11],[0,1,4,5,6,7,8,9,10,11,12],Wv 14,Wv 15]),(13,12,[[],[],[0,1],Wv 3,Wv 4,Wv 4,Wv 6,Wv 7,Wv 4,Wv 4,[0,1,2,3,8,9],[0,1,2,3,8,9,10],Wv 12,Wv 13]),(15,12,[[],[],[0,1],Wv 3,Wv 4,Wv 4,Wv 6,Wv 7,Wv 4,Wv 4,[0,1,2,3,8,9],[0,1,2,3,8,9,10],Wv 12,Wv 13,Wv 14]),(18,14,[[],[],[],[],[],[],[4,5],[4,5,6],[],[],[8,9],[8,9,10],[0,1,4,5,6,7,8,9,10,11],[0,1,4,5,6,7,8,9,10,11,12],Wv 14,Wv 15]),(21,14,[[],[],[],[],[],[],[4,5],[4,5,6],[],[],[8,9],[8,9,10],[0,1,4,5,6,7,8,9,10,11],[0,1,4,5,6,7,8,9,10,11,12],Wv 14,Wv 15])],head:=hdL [(3,[0,1,10,11]),(5,[0,1,10,11]),(17,[0,1,10,11]),(13,[0,1,10,11]),(15,[0,1,10,11])],tail:=tlL [(3,[(1,[0,1,10,11]),(0,[8,9])]),(5,[(3,[0,1,10,11]),(0,[8,9])]),(17,[(5,[0,1,11]),(0,[8,9])]),(13,[(5,[0,1,11]),(6,[0,1,10,11]),(7,[0,1,10,11]),(0,[8,9])]),(15,[(5,[0,1,11]),(6,[0,1,10,11]),(9,[0,1,10,11]),(0,[8,9])])] }| 147=>{ draw:=drL [(6,8,[[],[],[0,1],Wv 3,[],[],[4,5],[4,5,6],Wv 8])],head:=hdL [(4,[0,1,5])],tail:=tlL [(4,[(1,[]),(0,[4])])] }| 148=>{ head:=hdL [(5,[0,4,5])],tail:=tlL [(5,[(1,[0,4]),(0,[2,3])])] }| 150=>{ take:=tkL [(13,0),(13,4),(17,0),(17,1)],head:=hdL [(4,[0,4]),(10,[5,28,29,30])],tail:=tlL [(4,[(1,[0]),(0,[2,3])]),(10,[(3,[5]),(0,[2,3])])] }| 151=>{ draw:=drL [(1,15,[[],[0],[0,1],[],[3],[3,4],[],[6],[6,7],[],[9],[9,10],[],[12],[12,13],Wv 15,Wv 16])] }| 152=>{ take:=tkL [(12,0),(12,4),(15,0),(15,3)],head:=hdL [(4,[6,7,8,22,23,24]),(10,[6,7,8,12,13,15,22,23,24])],tail:=tlL [(4,[(1,[8]),(0,[4,5])]),(10,[(1,[8]),(2,[6,7,8,22,23,24]),(3,[6,7,8,22,23,24]),(0,[4,5])])] }| 153=>{ head:=hdL [(2,[1,10,11]),(7,[1,5,6,7,10,11,23,24,25])],tail:=tlL [(2,[(1,[]),(0,[2])]),(7,[(1,[]),(2,[10,11]),(3,[1,7,10,11]),(0,[2])])] }| 156=>{ head:=hdL [(12,[0,1,5,39,40,41]),(22,[1,8,63,64,65])],tail:=tlL [(12,[(2,[0,1,5]),(0,[4])]),(22,[(4,[8]),(0,[4])])] }| 157=>{ draw:=drL [(3,18,[[],[0],[],Wv 3,Wv 4,Wv 5,Wv 5,Wv 5,[0,1,2,3,4,6,7],Wv 9,Wv 10,Wv 5,Wv 5,Wv 5,[0,1,2,3,4,12,13],[0,1,2,3,4,12,13,14],[0,1,2,3,4,11,12,13,14,15],[0,1,2,3,4,11,12,13,14,15,16],Wv 18,Wv 19]),(5,12,[[],[],[],[1,2],Wv 4,Wv 5,[],[],[],[7,8],[6,7,8,9],[6,7,8,9,10],Wv 12,Wv 13]),(6,22,[[],[],[],[1,2],[],[],[],[5,6],[],[],[],[9,10],[8,9,10,11],[8,9,10,11,12],[],[],[],[15,16],[14,15,16,17],[14,15,16,17,18],[0,1,2,3,8,9,10,11,12,13,14,15,16,17,18,19],[0,1,2,3,8,9,10,11,12,13,14,15,16,17,18,19,20],Wv 22,Wv 23])],head:=hdL [(1,[0,2,3,8])],tail:=tlL [(1,[(1,[]),(0,[])])] }| 159=>{ draw:=drL [(1,7,[[],[0],[0,1],[],[3],[3,4],[3,4,5],Wv 7,Wv 8,Wv 9]),(2,7,[[],[0],[0,1],[],[3],[3,4],[3,4,5],Wv 7,Wv 8,Wv 9]),(3,7,[[],[0],[0,1],[],[3],[3,4],[3,4,5],Wv 7,Wv 8,Wv 9])] }| 167=>{ draw:=drL [(6,9,[[],[],[0,1],Wv 3,[],[],[5],[4,5,6],[4,5,6,7],Wv 9]),(11,9,[[],[],[0,1],Wv 3,[],[],[5],[4,5,6],[4,5,6,7],Wv 9])],head:=hdL [(4,[0,3]),(9,[0,3,4,5])],tail:=tlL [(4,[(1,[0]),(0,[2])]),(9,[(1,[0]),(2,[0,3]),(3,[0,3]),(0,[2])])] }| 169=>{ draw:=drL [(3,12,[[],[0],[0,1],Wv 3,Wv 4,[],[5],[5,6],[5,6,7],[5,6,7,8],Wv 10,[],Wv 12])] }| 171=>{ draw:=drL [(1,10,[[],[0],[0,1],Wv 3,Wv 4,[],[5],[5,6],[5,6,7],[5,6,7,8],Wv 10,Wv 11])] }| 172=>{ draw:=drL [(1,8,[[],[],[0,1],Wv 3,[],[],[4,5],[4,5,6],Wv 8])] }| 173=>{ head:=hdL [(11,[0,1,2,3,9,10])],tail:=tlL [(11,[(1,[0,9,10]),(0,[8])])] }| 175=>{ head:=hdL [(5,[0,4,5])],tail:=tlL [(5,[(1,[0,4]),(0,[2,3])])] }| 179=>{ draw:=drL [(0,14,[[],[0],[0,1],Wv 3,Wv 4,Wv 5,[],Wv 7,Wv 8,[],[9],[9,10],[9,10,11],[9,10,11,12],Wv 14,Wv 15])] }| 180=>{ head:=hdL [(6,[0,1,6,7])],tail:=tlL [(6,[(1,[0,1,6]),(0,[4])])] }| 181=>{ head:=hdL [(6,[0,1,5])],tail:=tlL [(6,[(1,[4]),(0,[4])])] }| 184=>{ draw:=drL [(3,10,[[],[],[0,1],[],[],[],[5],[4,5,6],[3,4,5,6,7],Wv 3,Wv 10,Wv 11])] }| 188=>{ head:=hdL [(2,[2,4])],tail:=tlL [(2,[(1,[2]),(0,[2])])] }| 191=>{ head:=hdL [(15,[0,1,5,6,7,8,9,10])],tail:=tlL [(15,[(2,[]),(0,[4])])] }| 195=>{ draw:=drL [(7,13,[[],[],[1],[],[],[4],[],[6],[6,7],[],[9],[0,1,2,6,7,8],[0,1,2,6,7,8,11],Wv 13,Wv 14]),(8,13,[[],[],[1],[],[],[4],[],[6],[6,7],[],[9],[0,1,2,6,7,8],[0,1,2,6,7,8,11],Wv 13,Wv 14]),(9,13,[[],[],[1],[],[],[4],[],[6],[6,7],[],[9],[0,1,2,6,7,8],[0,1,2,6,7,8,11],Wv 13,Wv 14]),(10,13,[[],[],[1],[],[],[4],[],[6],[6,7],[],[9],[0,1,2,6,7,8],[0,1,2,6,7,8,11],Wv 13,Wv 14]),(17,13,[[],[],[1],[],[],[4],[],[6],[6,7],[],[9],[0,1,2,6,7,8],[0,1,2,6,7,8,11],Wv 13,Wv 14]),(18,13,[[],[],[1],[],[],[4],[],[6],[6,7],[],[9],[0,1,2,6,7,8],[0,1,2,6,7,8,11],Wv 13,Wv 14]),(23,13,[[],[],[1],[],[],[4],[],[6],[6,7],[],[9],[0,1,2,6,7,8],[0,1,2,6,7,8,11],Wv 13,Wv 14])],head:=hdL [(1,[0,1,4])],tail:=tlL [(1,[(1,[0,1,4]),(0,[])])] }| 196=>{ head:=hdL [(11,[0,1,3,4,10,11,12,13,14,15,16]),(18,[0,1,3,4,10,11,12,13,17])],tail:=tlL [(11,[(1,[0,1,3,4,10,11,12,13]),(0,[10,11])]),(18,[(3,[0,1,3,4,10,11,12,13]),(0,[10,11])])] }| 201=>{ head:=hdL [(5,[0,1,5,6,7,8,9]),(11,[0,1,5,6,7,8,10])],tail:=tlL [(5,[(1,[0,1,5,6,7,8]),(0,[4])]),(11,[(3,[]),(0,[4])])] }| 207=>{ head:=hdL [(3,[0,4,5]),(8,[4,6,7,8])],tail:=tlL [(3,[(1,[0,4]),(0,[2,3])]),(8,[(3,[4,6]),(0,[2,3])])] }|_=>{}
theorem Uh {α:Type}{p:α→Prop}:∀x∈([]:List α),p x:=fun x h=>by cases h
theorem TM {α:Type}{p:α→Prop}{a:α}{l:List α}(h:p a)(t:∀x∈l,p x):∀x∈a::l,p x:=fun x hx=>by
 rcases WZ.1 hx with rfl|hx
 ·exact h
 ·exact t x hx
theorem UT:∀p∈tab.ts,nu Tryz.prog p.1=some p.2:=YU.1 (by kernel_rfl)
theorem Un:∀p∈tab.eqs,Pg Tryz.prog p.1=some p.2:=YU.1 (by kernel_rfl)
theorem UD:∀p∈tab.pls,rU Tryz.prog p.1=some p.2:=YU.1 (by kernel_rfl)
theorem Uj:∀p∈tab.ars,SJ Tryz.prog p.1=some p.2:=YU.1 (by kernel_rfl)
theorem TL:∀p∈tab.addr,J6 Tryz.prog p.1 p.2:=TM O7 (Uh)
theorem UH:bz Tryz.prog tab:=⟨UT,Un,UD,by kernel_rfl,Uj,TL⟩
noncomputable def fns:FuncId→Option Func:=PB Tryz.prog UZ
theorem Ur:jk Tryz.prog fns:=Tb (by kernel_rfl)
noncomputable def E:Env:=⟨tab,fns,hints,orc⟩
theorem ji {tab:Tab}{t:Nat}{a b:Zz}(h:a.size+b.size≤maxStr):AT tab .add t (.string a) (.string b)=some (.string (a++b)):=by show(if a.size+b.size≤maxStr then some (Value.string (a++b))else none)=_;rw[Wz h]
theorem U3 {f:FuncId}{xs:List (Sl Unit Unit)}{x:Value}(h:Does E f xs [(false,[.v x])]){w:World}(b:nz.ok w []){ad:List DSl}{a:List Value}(c:ad.map Sl.er=xs)(d:ArgsIn w ad a):
  Calls Tryz.prog f a.toArray w fun e w'=>e = .returned x∧RowKit.Below w.heap.size w w':=Does.plain UH Ur UC h b c d
end
end Go.Proofs.YtlgddjncnedkgaaGreatDoor.Am
