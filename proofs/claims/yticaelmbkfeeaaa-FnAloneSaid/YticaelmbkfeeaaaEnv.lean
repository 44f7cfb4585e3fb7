/- What 'others' tells; the seat's types and functions. -/
import Derived.Test.YticaelmbkfeeaaaAmc
import Derived.Shelf.SlicesE.DeleteFunc
import Derived.Test.YticaelmbkfeeaaaProg
import Derived.KernelRfl
import Derived.WalkKit
namespace Go.Proofs.Yticaelmbkfeeaaa.Am
open Go
set_option linter.unusedVariables false
set_option linter.unusedSimpArgs false
section
open Go.Proofs
set_option maxRecDepth 100000
def laysSlH10_f177_ren:Go.Shelf.Ren:=⟨fun| 10=>86| 6=>96|n=>n,fun| 22=>24| 23=>3| 25=>77| 3=>3| 4=>4| 0=>0|n=>n,fun|n=>n⟩
theorem qJ:Go.Proofs.SlLaysH.n10 Try.prog laysSlH10_f177_ren:={
 mixed:=by kernel_rfl
 f6:=⟨Try.f96.name,by decide,Try.func96.trans (Ds some (by kernel_rfl))⟩
 f10:=⟨Try.f86.name,by decide,Try.func86.trans (Ds some (by kernel_rfl))⟩
 t0:=Try.underlying0
 a0:=Try.isAgg0
 z0:=Try.sizeOf0
 v0:=Try.zeroValue0
 t3:=Try.underlying3
 a3:=Try.isAgg3
 z3:=Try.sizeOf3
 v3:=Try.zeroValue3
 t4:=Try.underlying4
 a4:=Try.isAgg4
 z4:=Try.sizeOf4
 v4:=Try.zeroValue4
 t22:=Try.underlying24
 a22:=Try.isAgg24
 z22:=Try.sizeOf24
 v22:=Try.zeroValue24
 a23:=Try.isAgg3
 z23:=Try.sizeOf3
 t25:=Try.underlying77
 a25:=Try.isAgg77
 z25:=Try.sizeOf77
 v25:=Try.zeroValue77 }
theorem qI {α:Type}[Inhabited α](enc:α→Value)(j:OneCell enc)(p:α→Bool)(g:Nat)(b:Array Value)(k:∀args w,(callFunc g args).run Try.prog w = .ok (.enter g args) w)(c:α)(f:∀w,(zeroValue 3).run Try.prog w = .ok (enc c) w)(a off cap:Nat)(d:Array α)(w:World)(l:PredAt Try.prog g b enc p w)(h:PredOver Try.prog g b enc p a off d.size w)(m:Go.Sort.Holds enc w a off d)(i:d.size≤9223372036854775807)(hcap:d.size≤cap):
  Calls Try.prog 86 #[.slice (some ⟨a,off,none⟩) d.size cap,.func (.func g) #[] b] w fun e w'=>e = .returned (.slice (some ⟨a,off,none⟩) (d.toList.filter fun x => !p x).length cap)∧∃q,w'=Go.Sort.putRow enc (Go.Sort.ahead w q) a off ((d.toList.filter fun x => !p x)++List.replicate (d.size-(d.toList.filter fun x => !p x).length) c).toArray:=AnyE.slices_DeleteFunc qJ enc j p g b k c f a off cap d w l h m i hcap
theorem uf {P:Program}{ops:Array Oper}{Q:Exit→Act→World→Prop}{a:Act}{w w':World}{rest:List Oper}{o:Oper}{y:Value}(b:o.guard=none)(h:(execOp a.eval o).run P w = .ok (.value y) w')
  (k:wpList P ops Q rest (a.put o.dst y) w'):wpList P ops Q (o::rest) a w:=by
 unfold wpList;rw[BZ (by simp[Region.wanted,b])];left;unfold Oper.wp;rw[h];exact k
def jN (C:Sem1):List (Sl Unit Unit)→Option URes
 |[.im .far () (.v (.int .i64 id)::ts) 0]=>
  match C 14 [.agg (.v (.int .i64 id)::ts.map (T.view .far))]with
  |some [(false,[.s .own () 1 rows])]=>(lU rows).bind fun l=>if l≠[]∧ts.length+1=14∧l.length≤1050000 then some [(false,[.s .own () 1 ((l.filter fun x => !(x==id)).map etI)])]else none
  |_=>none
 |_=>none
theorem yq (id x:Int)(B:Nat)(a:Nat×Nat)(W:World)(b:W.cell? ⟨B,0,none⟩=some (.pointer (some ⟨a.1,a.2,none⟩)))(c:W.cell? ⟨a.1,a.2,none⟩=some (.int .i64 id)):
  FnGives Try.prog 87 #[.pointer (some ⟨B,0,none⟩)] #[.int .i64 x] (.bool (x==id)) W:=by
 show Calls Try.prog 87 #[.int .i64 x,.pointer (some ⟨B,0,none⟩)] W _
 go_enter Try.func87,Try.ntmps87
 go_wp2
 all_goals (go_ret;exact⟨by simp_all,0,rfl⟩)
theorem xi {P:Program}{a:Act}{w:World}{o:Oper}{t:TypeId}{x:Operand}{y v:Value}(b:o.op = .load t x)(c:a.eval x=y)(h:(Instr.loadAt t y).run P w = .ok v w):(execOp a.eval o).run P w = .ok (.value v) w:=by simp[execOp,b,c,h]
theorem zw {ad:List DSl}{t0:T Unit}{ts:List (T Unit)}(h:ad.map Sl.er=[.im .far () (t0::ts) 0]):∃(b:Nat×Nat) (a:List DT),ad=[.im .far b a 0]∧erL a=t0::ts:=by
 match ad with
 |[]=>cases h
 |[s]=>
  cases s with
  |im k b a off =>simp only[Cc,Cu,Sl.er,CX,Sl.im.injEq,Du]at h;obtain⟨rfl,_,c,rfl⟩:=h;exact⟨b,a,rfl,c⟩
  |one u=>simp[Sl.er]at h
  |_=>simp[Sl.er]at h
 |s::s'::r=>simp at h
theorem jF {w w':World}{b:Nat}(h:w'.heap[b]?=w.heap[b]?)(o:Nat):w'.cell? ⟨b,o,none⟩=w.cell? ⟨b,o,none⟩:=by unfold World.cell?;simp only[h]
def TI36:TI:=⟨14,176,[tI (0:Int),tI (0:Int),tI (0:Int),tI (0:Int),tI (0:Int),.s .own () 1 [],tI (0:Int),tI (0:Int),.s .own () 3 [],tI (0:Int),tI (0:Int),tI (0:Int),.s .own () 1 [],.s .own () 4 []],.struct [0,1,2,3,4,5,6,9,10,11,12,13]⟩
theorem RetOk.row {w w':World}{X:List Nat}{Y:Nat→Prop}{bx:List Nat}{rd:bA}{v:Value}(R:RetOk w X Y w' bx [] rd v){z:Nat}{rows:List (List (T Unit))}(h:erR rd=[(false,[.s .own () z rows])]):
  ∃d e,rd=[(false,[.s .own d z e])]∧e.map erL=rows∧v = .slice d.addr e.length d.cap∧Holds w' (.s .own d z e)∧OwnT w' (.s .own d z e):=by
 match rd,h,R with
 |[(g,ts)],h,R =>
  simp only[erR,Cc,Cu,CX,DC,Du]at h;obtain⟨rfl,h⟩:=h
  match ts,h,R with
  |[t],h,R =>
   simp only[erL,Cc,Cu,CX,Du]at h;cases t with
   |v x=>rw[ca]at h;cases h
   |any=>cases h
   |s k d p r =>
    rw[ak]at h;simp only[T.s.injEq,Ei]at h;obtain⟨j,l,m⟩:=h;subst j;subst l;refine⟨d,r,rfl,m,?_,R.holds _ (Cj _) _ (Cj _),R.own _ (Cj _) _ (Cj _) rfl⟩;rcases R.val with⟨q,f,i⟩|⟨f,_⟩|⟨y,n,row,fs,f,_⟩
    ·cases f;simp only[VPart,Ch,CD]at i;obtain⟨t,o,hv⟩:=i;cases o;exact hv
    ·exact absurd rfl f
    ·cases f
  |[],h,R=>simp[erL]at h
  |t::u::ts,h,R=>simp[erL]at h
 |[],h,R=>simp[erR]at h
 |a::b::c,h,R=>simp[erR]at h
theorem zc:fU Try.prog 31=some TI36:=by kernel_rfl
theorem xW:∀args w,(callFunc 87 args).run Try.prog w = .ok (.enter 87 args) w:=enters_of Try.func87 (by kernel_rfl) rfl
set_option maxHeartbeats 2000000 in
theorem xx {C:Sem1}(hC:CallsOk Try.prog B0 C){us:List (Sl Unit Unit)}{rs:URes}(h:jN C us=some rs)(w:World)(X:List Nat)(Y:Nat→Prop)(ad:List DSl)(vs:List Value)(he:ad.map Sl.er=us)(hA:ArgsOk w X Y ad vs):
  Calls Try.prog 68 vs.toArray w fun e w'=>∃v od rd,e = .returned v∧GrewH X w w'∧erR (od++rd)=rs∧OutsOk w' ad vs od∧RetOk w X Y w' (ad.flatMap cf) od rd v:=by
 unfold jN at h;split at h
 case h_2=>cases h
 rename_i id ts;split at h
 case h_2=>cases h
 rename_i rows Q;rw[BT]at h;obtain⟨l,hl,h⟩:=h;split at h
 case isFalse=>cases h
 rename_i p;cases h;obtain⟨p,Fh,Fj⟩:=p;obtain⟨b,J,rfl,m⟩:=zw he;obtain⟨Fa,F3,Fb⟩:=hA;obtain⟨y,rfl⟩:∃y,vs=[y]:=by
  match vs,Fa with
  |[y],_=>exact⟨y,rfl⟩
  |[],h=>cases h
  |y::z::r,h=>simp at h
 have A:=F3 0 _ _ rfl rfl;have hy:y = .pointer (some ⟨b.1,b.2,none⟩):=A.val [];obtain⟨F4,Fc,B⟩:=A.mem;obtain⟨K,S⟩:(Cx.mk w X Y).far b.1∧∀t∈J,∀x∈bl t,(Cx.mk w X Y).far x:=A.kind [] (DI _);have U:J.length=14:=by have:=Ds List.length m;simp at this;omega
 obtain⟨j,rfl⟩:∃r,J = .v (.int .i64 id)::r:=by
  match J,m with
  |t::r,m =>
   simp only[erL,Cc,CX]at m;cases t with
   |v x=>rw[ca]at m;cases m.1;exact⟨r,rfl⟩
   |any=>cases m.1
   |s k d z q=>rw[ak]at m;cases m.1
 have V:w.cell? ⟨b.1,b.2,none⟩=some (.int .i64 id):=by obtain⟨c,e,f,F,G⟩:=B;obtain⟨z,z1,z2⟩:=G 0 _ rfl;unfold World.cell?;simp only[F];rw[show z=_ from z2.1]at z1;simpa using z1
 generalize L:w.alloc (.cells #[.pointer (some ⟨b.1,b.2,none⟩)] 91)=w1;have g1:Grew w w1:=L ▸ Grew.alloc w _;have s1:w1.heap.size=w.heap.size+1:=by rw[←L];simp
 have c1:w1.cell? ⟨w.heap.size,0,none⟩=some (.pointer (some ⟨b.1,b.2,none⟩)):=by
  have hb:w1.heap[w.heap.size]?=some (.cells #[.pointer (some ⟨b.1,b.2,none⟩)] 91):=by rw[←L];show(w.heap.push _)[w.heap.size]?=_;simp
  unfold World.cell?;simp only[hb];rfl
 have b1:w1.cell? ⟨b.1,b.2,none⟩=some (.int .i64 id):=by rw[jF (g1.same b.1 K.1.1)];exact V
 have fr:∀t∈((.v (.int .i64 id):DT)::j),Holds w1 t:=fun t ht=>(F4 t ht).frame fun x Z Fe=>g1.same x Fe
 have CC:Cells w1 b.1 b.2 ((.v (.int .i64 id):DT)::j):=⟨by obtain⟨c,e,f,F,G⟩:=B;exact⟨c,e,f,by rw[g1.same b.1 K.1.1];exact F,G⟩,fr⟩
 obtain⟨yn,F0,F5⟩:=CC.load zc (by decide) (by rw[U];rfl) (fun h=>by cases h);simp only[TI36,Sh.agg,CI]at F5;obtain⟨cs,rfl,F6⟩:=F5;obtain⟨hB,hN⟩:=AOk.views (w:=w1) (X:=[]) (Y:=Y) (ts:=(.v (.int .i64 id):DT)::j) (ys:=cs.toList) (g:=true) (y := .agg cs) (s := .agg (((.v (.int .i64 id):DT)::j).map (T.view .far))) F6 fr (fun t ht x Z=>⟨⟨by rw[s1];have:=(S t ht x Z).1.1;simp only at this;omega,by simp⟩,(S t ht x Z).2⟩) (by simp[aP]) rfl;have H:=hC 14 _ _ Q w1 [] Y [.agg (((.v (.int .i64 id):DT)::j).map (T.view .far))] [.agg cs] (B0.ok _ _) (by
  simp only[Cc,Cu,Sl.er,CX,Du,Sl.agg.injEq];simp only[erL,Cc,CX]at m;refine⟨rfl,?_⟩;have:List.map T.er (List.map (T.view .far) j)=List.map (T.view .far) (List.map T.er j):=il (k := .far) j;rw[this,m.2]) ⟨rfl,fun i a y h1 h2=>by
   cases i with
   |zero=>simp at h1 h2;subst h1;subst h2;exact hB
   |succ i=>simp at h1,fun x=>by simp only[B9,Df,Cp];rw[dS hN];exact DI _⟩
 have M:Calls Try.prog 14 #[.agg cs] w1 fun e w2=>∃d:Dec,e = .returned (.slice (some ⟨d.b,d.o,none⟩) l.length d.cap)∧Grew w1 w2∧Holds w2 (.s .own d 1 (cm (Value.int .i64) l))∧OwnT w2 (.s .own d 1 (cm (Value.int .i64) l))∧w1.heap.size≤d.b:=by refine H.mono ?_;rintro e w2 ⟨v1,od,rd,rfl,D,I,hO,R⟩;have:od=[]:=OutsOk.none (fun a ha=>by rw[B4]at ha;subst ha;exact hN) hO;subst this;obtain⟨d,F1,rfl,r2,r3,r4,r5⟩:=R.row I;have F7:=tz (rows:=F1) (by rw[r2];exact hl);subst F7;obtain⟨k1,k2,k3,k4,k5⟩:=kp (Value.int .i64) p r4 r5;refine⟨d,by rw[r3,k4];simp[cm],D.grew,r4,r5,?_⟩;have:=R.new d.b (by simp[aJ,ownR,T.isOwn,wK _ _ k5]);exact this.1.elim (fun h=>h) fun h=>by cases h
 have N:∀(w2:World)(d:Dec),Grew w1 w2→Holds w2 (.s .own d 1 (cm (Value.int .i64) l))→OwnT w2 (.s .own d 1 (cm (Value.int .i64) l))→w1.heap.size≤d.b →
   Calls Try.prog 86 #[.slice (some ⟨d.b,d.o,none⟩) l.length d.cap,.func (.func 87) #[] #[.pointer (some ⟨w.heap.size,0,none⟩)]] w2 fun e w3 =>
    e = .returned (.slice (some ⟨d.b,d.o,none⟩) (l.filter fun x => !(x==id)).length d.cap)∧Holds w3 (.s .own d 1 (cm (Value.int .i64) (l.filter fun x => !(x==id))))∧OwnT w3 (.s .own d 1 (cm (Value.int .i64) (l.filter fun x => !(x==id))))∧GrewH [d.b] w2 w3:=by
  intro w2 d D F G q3;obtain⟨k1,k2,k3,k4,k5⟩:=kp (Value.int .i64) p F G;have cB:∀W:World,W.heap[w.heap.size]?=w2.heap[w.heap.size]?→W.heap[b.1]?=w2.heap[b.1]?→∀x,FnGives Try.prog 87 #[.pointer (some ⟨w.heap.size,0,none⟩)] #[.int .i64 x] (.bool (x==id)) W:=by
   intro W e1 e2 x;refine yq id x w.heap.size b W ?_ ?_
   ·rw[jF (e1.trans (D.same _ (by omega)))];exact c1
   ·rw[jF (e2.trans (D.same _ (by have:=K.1.1;simp only at this;omega)))];exact b1
  have Fk:b.1<w.heap.size:=K.1.1;have Fi:w1.heap.size≤w2.heap.size:=D.size;have hd:=qI (Value.int .i64) (fun _=>rfl) (fun x=>x==id) 87 #[.pointer (some ⟨w.heap.size,0,none⟩)] xW 0 Try.zeroValue3 d.b d.o d.cap l.toArray w2
   (fun W x hb=>cB W (hb.block _ (by omega)) (hb.block _ (by omega)) x)
   (fun n os dk x hs=>cB _ (by
     unfold Go.Proofs.sortWorld;rw[Go.Sort.heap_grow_old _ _ (by show _<(w2.heap.modify _ _).size;simp;omega),jz,Cd (by omega)]) (by
     unfold Go.Proofs.sortWorld;rw[Go.Sort.heap_grow_old _ _ (by show _<(w2.heap.modify _ _).size;simp;omega),jz,Cd (by omega)]) x)
   k1 (by simp;omega) (by simpa using k3)
  have F2:((l.filter fun x => !(x==id))++List.replicate (l.length-(l.filter fun x => !(x==id)).length) (0:Int)).length=l.length:=by have:=List.length_filter_le (fun x => !(x==id)) l;simp;omega
  have Ff:Calls Try.prog 86 #[.slice (some ⟨d.b,d.o,none⟩) l.length d.cap,.func (.func 87) #[] #[.pointer (some ⟨w.heap.size,0,none⟩)]] w2 fun e w'=>e = .returned (.slice (some ⟨d.b,d.o,none⟩) (l.filter fun x => !(x==id)).length d.cap)∧∃q,w'=Go.Sort.putRow (Value.int .i64) (Go.Sort.ahead w2 q) d.b d.o ((l.filter fun x => !(x==id))++List.replicate (l.length-(l.filter fun x => !(x==id)).length) 0).toArray:=by simpa using hd
  refine Ff.mono ?_;rintro e w3 ⟨rfl,q,rfl⟩;obtain⟨m1,m2,O⟩:=y8 (Value.int .i64) (fun _=>rfl) p F G q F2 (l2:=l.filter fun x => !(x==id)) (List.prefix_append _ _);exact⟨rfl,m1,m2,O⟩
 rw[hy];clear F4 Fc S A F3 Fb he m F6 B CC fr hB hN hy H;subst L;generalize hf:(l.filter fun x => !(x==id))=lf at N ⊢
 go_enter Try.func68,Try.ntmps68
 go_wp2_with (first
  |(refine uf rfl (xi (t:=31) (x := .tmp 4) rfl rfl F0) ?_)
  |(go_at_call 14;refine M.mono ?_;rintro e w2 ⟨d,rfl,D,F,G,q3⟩)
  |(go_at_call 86;refine(N w2 d D F G q3).mono ?_;rintro e w3 ⟨rfl,m1,m2,O⟩)
  |go_in)
 go_ret
 have F8:d.nil=false:=(kp (Value.int .i64) p F G).2.2.2.2;have F9:bl (.s .own d 1 (cm (Value.int .i64) lf))=[d.b]:=wK _ _ F8 _;have Fg:d.b<w3.heap.size:=Cr (kp (Value.int .i64) p F G).2.1 O.size;refine⟨_,[],[(false,[.s .own d 1 (cm (Value.int .i64) lf)])],rfl,?_,?_,rfl,?_⟩
 ·refine⟨by rw[O.os,D.os];rfl,by rw[O.tape,D.tape];rfl,by rw[O.output,D.output];rfl,by have:=O.size;have:=D.size;omega,fun x Z hn=>?_⟩;rw[O.same x (by have:=D.size;omega) (by simp;omega),D.same x (by omega)];exact g1.same x Z
 ·simp[erR,erL,ak,zg,etI]
 ·refine⟨.inl ⟨_,rfl,?_⟩,?_,?_,?_,?_,?_⟩
  ·simp only[VPart,Ch,CD];refine⟨_,rfl,?_⟩;show _=Value.slice d.addr _ _;rw[(kp (Value.int .i64) p F G).2.2.2.1];simp[cm]
  ·intro r I u P;rw[Co,B4]at I;subst I;rw[B4]at P;subst P;exact KindR.fine rfl
  ·intro r I u P;rw[Co,B4]at I;subst I;rw[B4]at P;subst P;exact m1
  ·intro r I u P _;rw[Co,B4]at I;subst I;rw[B4]at P;subst P;exact m2
  ·intro x;simp[aJ,ownR,T.isOwn,F9,cf,CU];split<;>omega
  ·intro x Z;have:x=d.b:=by simpa[aJ,ownR,T.isOwn,F9]using Z
   subst this;exact⟨.inl (by omega),Fg⟩
def orc (C:Sem1):Sem1:=fun f us=>match f with| 68=>jN C us|_=>none
theorem zG:∀C,CallsOk Try.prog B0 C→CallsOk Try.prog B0 (orc C):=by
 intro C a f us rs h w X Y ad b _ c d;unfold orc at h;split at h
 ·exact xx a h w X Y ad b c d
 ·cases h
def tab:Tab where
 ts:=yr [([2,3],⟨1,8,[tI (0:Int)],.int .i64⟩),
  ([4],⟨1,1,[tB false],.bool⟩),
  ([5,6,187,188],⟨1,1,[tY (0:Int)],.int .u8⟩),
  ([7,8],⟨4,24,[tI (0:Int),tI (0:Int),tB false,tY (0:Int)],.struct [0,1,2,3]⟩),
  ([9,10,11],⟨1,16,[tS ByteArray.empty],.str⟩),
  ([12,87],⟨1,8,[.v (.int .u64 0)],.int .u64⟩),
  ([13,14],⟨2,24,[tS ByteArray.empty,.v (.int .u64 0)],.struct [0,1]⟩),
  ([21,191,192],⟨1,4,[.v (.int .i32 0)],.int .i32⟩),
  ([22],⟨1,24,[.s .own () 1 []],.slice 5⟩),
  ([24],⟨1,24,[.s .own () 1 []],.slice 3⟩),
  ([26],⟨1,24,[.s .own () 3 []],.slice 47⟩),
  ([27,28],⟨3,40,[tI (0:Int),tI (0:Int),.s .own () 3 []],.struct [0,1,2]⟩),
  ([29],⟨1,24,[.s .own () 4 []],.slice 90⟩),
  ([30,31],⟨14,176,[tI (0:Int),tI (0:Int),tI (0:Int),tI (0:Int),tI (0:Int),.s .own () 1 [],tI (0:Int),tI (0:Int),.s .own () 3 [],tI (0:Int),tI (0:Int),tI (0:Int),.s .own () 1 [],.s .own () 4 []],.struct [0,1,2,3,4,5,6,9,10,11,12,13]⟩),
  ([34],⟨1,24,[.s .own () 12 []],.slice 95⟩),
  ([46,47,121,122],⟨3,32,[tI (0:Int),tI (0:Int),tS ByteArray.empty],.struct [0,1,2]⟩),
  ([85,86],⟨3,40,[.s .own () 1 [],tI (0:Int),tI (0:Int)],.struct [0,1,2]⟩),
  ([89,90,156,157],⟨4,32,[tI (0:Int),tI (0:Int),tI (0:Int),tI (0:Int)],.struct [0,1,2,3]⟩),
  ([94,95],⟨12,136,[tI (0:Int),tI (0:Int),tI (0:Int),tI (0:Int),tI (0:Int),tI (0:Int),tI (0:Int),tB false,.s .own () 3 [],.s .own () 1 [],tS ByteArray.empty,tB false],.struct [0,1,2,3,4,5,6,7,8,9,10,11]⟩),
  ([106,107],⟨8,80,[tI (0:Int),tI (0:Int),tI (0:Int),tS ByteArray.empty,tS ByteArray.empty,tI (0:Int),tI (0:Int),tB false],.struct [0,1,2,3,4,5,6,7]⟩),
  ([115],⟨1,24,[.s .own () 3 []],.slice 122⟩),
  ([116],⟨1,24,[.s .own () 9 []],.slice 136⟩),
  ([117],⟨1,24,[.s .own () 5 []],.slice 142⟩),
  ([118,119],⟨5,88,[.s .own () 3 [],.s .own () 9 [],.s .own () 5 [],tI (0:Int),tI (0:Int)],.struct [0,1,2,3,4]⟩),
  ([129],⟨1,24,[.s .own () 5 []],.slice 160⟩),
  ([130,131],⟨6,80,[tS ByteArray.empty,tS ByteArray.empty,tI (0:Int),tI (0:Int),tB false,.s .own () 5 []],.struct [0,1,2,3,4,5]⟩),
  ([135,136],⟨9,104,[tS ByteArray.empty,tS ByteArray.empty,tI (0:Int),tI (0:Int),tB false,.s .own () 5 [],tB false,tI (0:Int),tI (0:Int)],.struct [0,6,7,8]⟩),
  ([138,139],⟨2,16,[tI (0:Int),tI (0:Int)],.struct [0,1]⟩),
  ([140],⟨1,24,[.s .own () 4 []],.slice 157⟩),
  ([141,142],⟨5,64,[tS ByteArray.empty,tI (0:Int),tI (0:Int),tI (0:Int),.s .own () 4 []],.struct [0,1,3,4]⟩),
  ([144],⟨1,24,[.s .own () 1 []],.slice 9⟩),
  ([159,160],⟨5,72,[tS ByteArray.empty,tS ByteArray.empty,tI (0:Int),tB false,.s .own () 1 []],.struct [0,1,2,3,4]⟩),
  ([161,162],⟨5,120,[.s .own () 1 [],.s .own () 1 [],.s .own () 1 [],.s .own () 1 [],.s .own () 1 []],.struct [0,1,2,3,4]⟩),
  ([173],⟨1,24,[.s .own () 1 []],.slice 4⟩),
  ([186],⟨1,4,[.v (.int .u32 0)],.int .u32⟩)]
 eqs:=yr [([46,47,121,122],[(0,3),(1,3),(2,9)]),
  ([89,90,156,157],[(0,3),(1,3),(2,3),(3,3)]),
  ([106,107],[(0,3),(1,3),(2,3),(3,9),(4,9),(5,3),(6,3),(7,4)]),
  ([138,139],[(0,3),(1,3)])]
 pls:=yr [([7,8,89,90,156,157],[(0,1),(1,1),(2,1),(3,1)]),
  ([13,14,138,139],[(0,1),(1,1)]),
  ([27,28,46,47,85,86,121,122],[(0,1),(1,1),(2,1)]),
  ([30,31],[(0,1),(1,1),(2,1),(3,1),(4,1),(5,1),(6,3),(9,1),(10,1),(11,1),(12,1),(13,1)]),
  ([94,95],[(0,1),(1,1),(2,1),(3,1),(4,1),(5,1),(6,1),(7,1),(8,1),(9,1),(10,1),(11,1)]),
  ([106,107],[(0,1),(1,1),(2,1),(3,1),(4,1),(5,1),(6,1),(7,1)]),
  ([118,119,159,160,161,162],[(0,1),(1,1),(2,1),(3,1),(4,1)]),
  ([130,131],[(0,1),(1,1),(2,1),(3,1),(4,1),(5,1)]),
  ([135,136],[(0,6),(6,1),(7,1),(8,1)]),
  ([141,142],[(0,1),(1,2),(3,1),(4,1)])]
 io:=[(30,0),(31,0),(35,0),(39,0),(40,0),(67,0),(73,0)]
 pw:=[(30,[3]),(31,[3,0]),(35,[14,0]),(37,[3]),(38,[14,0]),(39,[14,0]),(40,[14]),(41,[14]),(67,[14]),(68,[14]),(69,[14]),(73,[14,0]),(74,[14,0])]
def zW:List Nat:=[3,6,7,8,9,10,11,12,13,14,15,16,23,24,25,26,29,30,31,32,33,34,35,36,37,38,39,40,41,42,43,44,45,46,47,48,55,56,61,62,64,65,66,67,68,69,70,71,72,73,74,75,76,77,85,86,87,96]
def hints:FuncId→ee| 3=>{ take:=tkL [(3,2),(4,0),(5,4),(5,8),(7,0),(7,2),(7,7),(7,8),(8,17),(10,0),(10,2),(10,8),(10,9),(14,3),(16,3),(18,0),(18,3),(18,9),(18,10),(20,3),(20,9),(20,10),(21,2),(21,6),(22,11),(22,18),(22,22)] }| 7=>{ take:=tkL [(3,1),(7,0),(7,5),(8,0),(8,1)],head:=hdL [(5,[3,4,5,7])],tail:=tlL [(5,[(1,[4]),(0,[2])])] }| 8=>{ take:=tkL [(1,3),(1,5),(3,1),(4,0),(4,1)] }| 9=>{ take:=tkL [(2,1),(3,3),(4,2),(5,0),(5,1),(5,2),(5,3)] }| 10=>{ take:=tkL [(3,1),(5,1),(6,3),(7,8),(12,4)],late:=hdL [(12,[0,1,2,3,4,5,6])],keep:=hdL [(12,[6,11,12])],draw:=drL [(12,2,[[],[],[],[0,1],[0,1,3],BN 5,BN 6])] }| 11=>{ take:=tkL [(3,1),(7,0),(7,8),(8,0)],head:=hdL [(5,[0,4,5])],tail:=tlL [(5,[(1,[4]),(0,[2,3])])] }| 12=>{ take:=tkL [(2,1),(3,3),(4,4),(5,9),(6,0),(6,1)],draw:=drL [(5,7,[[],[0],[],[],[3],[],[3,4,5],BN 7,BN 8,BN 9])] }| 13=>{ draw:=drL [(6,8,[[],[],[0,1],BN 3,[],[],[4,5],[4,5,6],BN 8])],head:=hdL [(4,[0,1,5])],tail:=tlL [(4,[(1,[]),(0,[4])])] }| 14=>{ take:=tkL [(1,2)] }| 15=>{ take:=tkL [(6,3),(6,6),(8,0),(8,1),(9,3)],head:=hdL [(2,[1,2,5])],tail:=tlL [(2,[(1,[2]),(0,[4])])] }| 24=>{ take:=tkL [(1,4),(3,9),(4,0),(4,1)],draw:=drL [(2,14,[[],[0],[0,1],BN 3,BN 3,[0,1,2,4],BN 3,BN 7,BN 8,BN 9,BN 10,BN 10,BN 12,BN 10,BN 14,BN 15])] }| 25=>{ draw:=drL [(2,5,[[],[0],[],[2],[0,1],BN 5]),(3,11,[[],[],[1],[],[3],[3,4],[3,4,5],[1,2,3,4,5,6],[1,2,3,4,5,6,7],[1,2,3,4,5,6,7,8],[0],BN 11])] }| 26=>{ head:=hdL [(5,[3,34,35,36])],tail:=tlL [(5,[(1,[]),(0,[2])])] }| 29=>{ head:=hdL [(3,[0,3,4])],tail:=tlL [(3,[(1,[0,3]),(0,[2])])] }| 30=>{ draw:=drL [(2,10,[[],[0],[0,1],BN 3,BN 4,[],[5],[5,6],[5,6,7],[5,6,7,8],BN 10,BN 11,BN 12]),(3,9,[[],[0],[0,1],BN 3,[],[4],[4,5],[4,5,6],[4,5,6,7],BN 9]),(4,12,[[],[],[1],[1,2],[1,2,3],[],[5],[5,6],[5,6,7],[1,2,3,4,5,6,7,8],[1,2,3,4,5,6,7,8,9],[1,2,3,4,5,6,7,8,9,10],BN 12,BN 13,BN 14])] }| 32=>{ take:=tkL [(3,3)] }| 34=>{ take:=tkL [(1,4),(2,4),(3,4),(4,4),(5,0),(5,1)] }| 35=>{ take:=tkL [(2,2),(7,4),(11,24),(12,0),(13,2),(19,13),(19,15),(21,0),(21,1)],draw:=drL [(4,8,[[],[0],[0,1],BN 3,[],[4],[4,5],[4,5,6],BN 8]),(11,22,[[],[],[],[],[],[4],[4,5],[4,5,6],[],[8],[8,9],[8,9,10],[8,9,10,11],[0,4,5,6,7,8,9,10,11],[0,4,5,6,7,8,9,10,11,13],[0,4,5,6,7,8,9,10,11,13,14],[0,1,4,5,6,7,8,9,10,11,13,14,15],[0,1,4,5,6,7,8,9,10,11,13,14,15,16],[0,1,4,5,6,7,8,9,10,11,13,14,15,16,17],[0,1,2,4,5,6,7,8,9,10,11,13,14,15,16,17,18],[0,1,2,4,5,6,7,8,9,10,11,13,14,15,16,17,18,19],[0,1,2,4,5,6,7,8,9,10,11,13,14,15,16,17,18,19,20],BN 22,BN 23,BN 24,[15,0,2],[18,0,3],[21,0,4]]),(19,14,[[],[],[1],[1,2],[1,2,3],[],[],[6],[6,7],[6,7,8],[],[],[1,2,3,4,5,6,7,8,9,10,11],[1,2,3,4,5,6,7,8,9,10,11,12],BN 14,BN 15])],head:=hdL [(17,[0,6,7,8,104,105,106])],tail:=tlL [(17,[(1,[0,8]),(0,[0,4])])] }| 36=>{ take:=tkL [(7,3),(7,6)] }| 37=>{ draw:=drL [(1,9,[[],[0],[0,1],BN 3,[],[4],[4,5],[4,5,6],[4,5,6,7],BN 9,BN 10])] }| 38=>{ take:=tkL [(1,2),(1,5)],draw:=drL [(2,32,[[],[0],[0,1],BN 3,BN 4,BN 5,[0,1],[0,1,6],[0,1,6,7],[0,1,6,7,8],BN 10,[0,1],[0,1,11],[0,1,11,12],[0,1,11,12,13],BN 15,BN 16,BN 17,BN 18,BN 19,BN 18,[0,1,2,3,4,5,6,7,8,9,10,11,12,13,14,15,16,17,20],[0,1,2,3,4,5,6,7,8,9,10,11,12,13,14,15,16,17,20,21],[0,1,2,3,4,5,6,7,8,9,10,11,12,13,14,15,16,17,20,21,22],BN 24,BN 25,BN 26,BN 27,BN 27,[0,1,2,3,4,5,6,7,8,9,10,11,12,13,14,15,16,17,18,19,20,21,22,23,24,25,26,28],[0,1,2,3,4,5,6,7,8,9,10,11,12,13,14,15,16,17,18,19,20,21,22,23,24,25,26,28,29],[0,1,2,3,4,5,6,7,8,9,10,11,12,13,14,15,16,17,18,19,20,21,22,23,24,25,26,28,29,30],BN 32,BN 33,BN 34])] }| 39=>{ take:=tkL [(6,0),(6,10),(7,0),(7,6),(9,1),(9,4)],head:=hdL [(2,[0,1,4,9,10,11])],tail:=tlL [(2,[(1,[0,4]),(0,[0])])] }| 40=>{ take:=tkL [(0,4),(4,5),(9,0),(9,5)],draw:=drL [(11,14,[[],[0],[0,1],BN 3,[],BN 5,[],[6],[6,7],[6,7,8],BN 10,BN 11,BN 12,BN 12,BN 14,BN 15]),(13,21,[[],[0],[0,1],BN 3,BN 4,BN 5,BN 6,BN 6,[0,1,2,3,4,5,7],[0,1,2,3,4,5,7,8],[0,1,2,3,4,5,7,8,9],BN 11,BN 12,BN 13,BN 14,BN 15,BN 16,BN 15,[0,1,2,3,4,5,6,7,8,9,10,11,12,13,14,17],[0,1,2,3,4,5,6,7,8,9,10,11,12,13,14,17,18],[0,1,2,3,4,5,6,7,8,9,10,11,12,13,14,17,18,19],BN 21,BN 22])],head:=hdL [(2,[0,2,3]),(6,[0,2,3,4,31,32,33])],tail:=tlL [(2,[(1,[0,2]),(0,[0])]),(6,[(1,[0,2]),(2,[0,2,3]),(3,[0,2,3,4]),(0,[0])])] }| 41=>{ take:=tkL [(5,0),(5,4),(5,6),(7,0),(7,1)],head:=hdL [(3,[0,3,9,10,11])],tail:=tlL [(3,[(1,[3]),(0,[2])])] }| 43=>{ take:=tkL [(3,2),(6,0),(6,1)] }| 47=>{ head:=hdL [(2,[0,5,6,7])],tail:=tlL [(2,[(1,[]),(0,[2])])] }| 48=>{ take:=tkL [(10,0),(10,5),(12,0)],head:=hdL [(6,[1,3,4,17,18,19])],tail:=tlL [(6,[(1,[1,4]),(0,[2])])] }| 55=>{ take:=tkL [(1,4),(2,0),(2,1)] }| 61=>{ take:=tkL [(3,3)] }| 64=>{ take:=tkL [(3,3)] }| 66=>{ head:=hdL [(3,[0,1,5,8,9,10])],tail:=tlL [(3,[(1,[0,5]),(0,[4])])] }| 67=>{ take:=tkL [(4,16),(9,13),(12,2)],late:=hdL [(4,[1,2,3,4,5,6,7,8,9,10,11,0,12,13,14,15,16])],keep:=hdL [(4,[0,3])],draw:=drL [(4,11,[[],[0],[0,1],BN 3,BN 4,[],[5],[5,6],[5,6,7],[5,6,7,8],[5,6,7,8,9],[],BN 11,BN 13,BN 14,BN 15,BN 16])],head:=hdL [(7,[0,3,54,55,56])],tail:=tlL [(7,[(1,[0]),(0,[0,2])])] }| 69=>{ head:=hdL [(2,[0,3])],tail:=tlL [(2,[(1,[0]),(0,[2])])] }| 70=>{ head:=hdL [(3,[0,1,5,6])],tail:=tlL [(3,[(1,[5]),(0,[4])])] }| 71=>{ head:=hdL [(2,[0,1,7,8])],tail:=tlL [(2,[(1,[]),(0,[4])])] }| 74=>{ take:=tkL [(1,12),(5,6),(6,0),(6,1),(10,7),(11,0),(11,1)],draw:=drL [(1,12,[[],[0],[0,1],BN 3,[],[4],[],[6],[6,7],[6,7,8],BN 10,[],BN 12]),(2,7,[[],[0],[],[2],[2,3],[2,3,4],[2,3,4,5],BN 7]),(4,16,[[],[0],[0,1],BN 3,BN 4,[],[5],[5,6],[5,6,7],[5,6,7,8],[],[10],BN 5,[0,1,2,3,4,12],[0,1,2,3,4,5,6,7,8,9,12,13],[0,1,2,3,4,5,6,7,8,9,12,13,14],BN 16,BN 17,[13,5,4],[15,5,5]]),(8,19,[[],[0],[0,1],[],[3],[3,4],[3,4,5],[],[7],[7,8],[3,4,5,6,7,8,9],[],[11],[11,12],[11,12,13],BN 3,[0,1,2,3,4,5,6,7,8,9,10,15],[0,1,2,3,4,5,6,7,8,9,10,15,16],[0,1,2,3,4,5,6,7,8,9,10,15,16,17],BN 19,BN 20,[16,5,4],[18,5,5]]),(9,14,[[],[0],[0,1],BN 3,BN 4,[],[5],[5,6],[],[8],[8,9],[8,9,10],[8,9,10,11],[5,6,7,8,9,10,11,12],BN 14,BN 15])] }| 75=>{ draw:=drL [(4,21,[[],[],[0,1],BN 3,[],[],BN 6,BN 7,BN 8,BN 9,BN 10,BN 11,BN 12,BN 12,[0,1,2,3,4,5,6,7,8,9,10,11,13],BN 15,BN 16,BN 12,BN 12,[0,1,2,3,4,5,6,7,8,9,10,11,17,18],[0,1,2,3,4,5,6,7,8,9,10,11,17,18,19],BN 21,BN 22,BN 23])],head:=hdL [(2,[0,1,2,7])],tail:=tlL [(2,[(1,[]),(0,[6])])] }| 76=>{ take:=tkL [(5,0),(5,5),(7,0),(7,1)],head:=hdL [(3,[3,7,8,9])],tail:=tlL [(3,[(1,[3]),(0,[2])])] }| 77=>{ draw:=drL [(6,8,[[],[],[0,1],BN 3,[],[],[4,5],[4,5,6],BN 8])],head:=hdL [(4,[0,1,12,13])],tail:=tlL [(4,[(1,[]),(0,[4])])] }| 85=>{ head:=hdL [(2,[0,1,7,8])],tail:=tlL [(2,[(1,[]),(0,[4])])] }| 86=>{ head:=hdL [(5,[0,1,5,6])],tail:=tlL [(5,[(1,[0,5]),(0,[4])])] }| 96=>{ head:=hdL [(2,[0,1,7,8])],tail:=tlL [(2,[(1,[]),(0,[4])])] }|_=>{}
theorem zR:∀p∈tab.ts,fU Try.prog p.1=some p.2:=DH.1 (by kernel_rfl)
theorem zp:∀p∈tab.eqs,vI Try.prog p.1=some p.2:=DH.1 (by kernel_rfl)
theorem zI:∀p∈tab.pls,iv Try.prog p.1=some p.2:=DH.1 (by kernel_rfl)
theorem zo:∀p∈tab.ars,xR Try.prog p.1=some p.2:=DH.1 (by kernel_rfl)
theorem yO:∀p∈tab.addr,wD Try.prog p.1 p.2:=fun p h=>by cases h
theorem zL:ax Try.prog tab:=⟨zR,zp,zI,by kernel_rfl,zo,yO⟩
noncomputable def fns:FuncId→Option Func:=wb Try.prog zW
theorem zx:dB Try.prog fns:=yl (by kernel_rfl)
noncomputable def E:Env:=⟨tab,fns,hints,orc⟩
theorem zZ {f:FuncId}{xs:List (Sl Unit Unit)}{x:Value}(h:Does E f xs [(false,[.v x])]){w:World}{ad:List DSl}{a:List Value}(b:ad.map Sl.er=xs)(c:ArgsIn w ad a):
  Calls Try.prog f a.toArray w fun e w'=>e = .returned x∧RowKit.Below w.heap.size w w':=Does.plain zL zx zG h (B0.ok _ _) b c
end
end Go.Proofs.Yticaelmbkfeeaaa.Am
