/- An abstract machine over trees, and that its steps are sound, a part. Conditions: none. -/
import Derived.Test.YtlgddjncnedkgaaGreatDoorAmb
import Derived.LoopN
namespace Go.Proofs.YtlgddjncnedkgaaGreatDoor.Am
open Go
set_option linter.unusedVariables false
set_option linter.unusedSimpArgs false
variable{Q:Exit→Act→World→Prop}{ops:Array Oper}{P:Program}{w:World}{tk:Nat→Bool}{tm:Array Value}{cx:Cx}{D:DSt}{B:Base}{j m id m0:Nat}{a:Act}{l:Array Bool}{ad:List DSl}{U:US}{ss:Nat→Sl Unit Unit}{rem σ:List Nat}{L:Nat→Prop}{R:Type}{t:TypeId}
theorem Inv.stepM {tab:Tab}(ok:bz P tab){fns:FuncId→Option Func}(hf:jk P fns){C:Sem1}(V:ie P B C cx)(I:Inv cx D [] a.tmps w){anc:List (List Nat)}(F:j<m)(W:∀u∈jj tk ops m,∀s∈erD D,eQ u s=false)(e:Am.stepM tab fns C tk ops m anc (erD D) j=some U){K:Act→World→Prop}(G:∀D' n w',erD D'=U→(∃o y,ops[j]?=some o∧n=a.put o.dst y)→Inv cx D' [] n.tmps w'→K n w'):wpOp P ops Q j K a w:=by
 unfold Am.stepM at e;split at e
 case h_2=>cases e
 rename_i t v;rw[WA]at v;obtain⟨o,i,hd⟩:=v;split at e
 case h_2=>cases e
 rename_i k;rw[WD]at e;obtain⟨s,x,f⟩:=e;unfold evM at x;rw[i]at x;simp only[hd]at x;rw[WA]at x;obtain⟨s',d,H⟩:=x;split at H
 case isFalse=>cases H
 rename_i z;cases H;have A:D[t]?=some .any:=by rw[cl,WD]at k;obtain⟨s',p,l⟩:=k;rw[p];cases s'<;>first|rfl|cases l
 have J:t<D.length:=by
  rcases WI t D.length with g|g
  ·exact g
  ·rw[WF g]at A;cases A
 split at d
 ·rename_i c;have f:(erD D).set t s=U:=by
   have:pP tk ops j (erD D)=erD D:=by unfold pP;rw[c]
   rw[this]at f;exact f
  have O:Region.wanted o (yielded ops a.tmps)=true→Am.stepV tab fns C (Am.killAll (kw tk ops m anc j) (erD D)) o=some s→wpOp P ops Q j K a w:=by intro X h;unfold wpOp;rw[i];simp only;rw[Wz X];exact .inl (I.stepV ok hf V hd A h fun D' n w' p l L=>G D' n w' (p.trans f) (l.elim fun y h=>⟨o,y,i,h⟩) L)
  unfold KO at d;split at d
  ·rename_i r;exact O (by simp[Region.wanted,r]) d
  ·rename_i g R r;split at d
   case h_2=>cases d
   rename_i b hb;have S:yielded ops a.tmps g=b:=by rw[WA]at hb;obtain⟨t',p,l⟩:=hb;rw[←lO,y5]at l;have:=(I.killAll (kw tk ops m anc j)).yieldAt l;unfold yielded;rw[p];exact this
   split at d
   ·rename_i q;exact O (by simp[Region.wanted,r,S,q]) d
   ·rename_i q;cases d;unfold wpOp;rw[i];simp only;rw[WM (by simp[Region.wanted,r,S,q]),hd];have:=I.putUndef J;have Y:Am.putA D t (.tup [])=D.set t (.tup []):=by unfold Am.putA;rw[A]
    rw[Y]at this;exact G _ _ _ ((ic D t (.tup [])).trans f) ⟨o,undef,i,by rw[hd]⟩ this
 ·rename_i u c;obtain⟨M,r⟩:=Tu i c;have f:((erD D).set u .any).set t s=U:=by
   have:pP tk ops j (erD D)=(erD D).set u .any:=by unfold pP;rw[c]
   rw[this]at f;exact f
  have N:u∈jj tk ops m:=X8.2 ⟨j,Xm.2 F,c⟩;have hs:eQ t s=false:=by have:=WS.1 z t (by simp);simpa using this
  unfold wpOp;rw[i];simp only;rw[Wz (by simp[Region.wanted,r])];exact .inl (I.stepT ok hd A M (W u N) d hs fun D' n w' p l L=>G D' n w' (p.trans f) (l.elim fun y h=>⟨o,y,i,h⟩) L)
def aZ (l:Array Bool)(i:Nat):Prop:=l.getD i false=true
theorem fA {i k:Nat}:aZ (l.setIfInBounds i true) k↔(k=i∧i<l.size)∨aZ l k:=by
 unfold aZ;rw[Xo,Xo,Array.getElem?_setIfInBounds];by_cases e:i=k
 ·subst e;by_cases h:i<l.size
  ·simp[h]
  ·simp[h]
 ·rw[WM e];constructor
  ·exact fun h=>.inr h
  ·rintro(⟨h,_⟩|h)
   ·exact absurd h.symm e
   ·exact h
structure AF (tk:Nat→Bool)(ops:Array Oper)(m:Nat)(anc:List (List Nat)):Prop where
 le:m≤ops.size
 topo:∀j i,i∈bL ops j→i<j
 dst:∀j,j<m→∃t,(ops[j]?).bind (·.dst)=some t
 nodup:(dw ops m).Nodup
 seq:∀j,m≤j→j<ops.size→∀i,i<j→i∈bL ops j∨∃k∈bL ops j,i∈anc.getD k []
 tk1:∀k,k<m→∀u,tko tk ops k=some u→∃i,i<m∧i∈anc.getD k []∧(ops[i]?).bind (·.dst)=some u
 tk2:∀k k' u,k<m→k'<m→tko tk ops k=some u→tko tk ops k'=some u→k=k'
 anc:∀j,j<ops.size→∀i∈anc.getD j [],i∈bL ops j∨∃k∈bL ops j,i∈anc.getD k []
theorem SS {anc:List (List Nat)}(h:JX tk ops m anc=true):AF tk ops m anc:=by
 unfold JX at h;rw[W0]at h;obtain⟨h,p⟩:=h;simp only[W0,WS,Xm,Xv,YN,XG,XX]at h;obtain⟨⟨⟨⟨⟨q,r⟩,s⟩,t⟩,v⟩,w⟩:=h;have l:∀k,k<m→∀u,tko tk ops k=some u→((List.range m).any (fun i=>(anc.getD k []).contains i&&decide ((ops[i]?).bind (·.dst)=some u)) && !((oq tk ops m k).contains u))=true:=fun k l u c=>by have:=WS.1 p k (Xm.2 l);rw[c]at this;exact this
 refine⟨q,fun j i hi=>?_,fun j d=>Yl.1 (s j d),t,fun j x d i hi=>?_,fun k a u c=>?_,fun k k' u a f c n=>?_,fun j d i hi=>v j d i hi⟩
 ·rcases WI j ops.size with g|g
  ·exact r j g i hi
  ·unfold bL at hi;rw[Xz g]at hi;cases hi
 ·rcases w j d with g|g
  ·omega
  ·exact g i hi
 ·have:=l k a u c;rw[W0,XX]at this;obtain⟨⟨i,hi,b⟩,_⟩:=this;rw[W0,XG,Xv]at b;exact⟨i,Xm.1 hi,b.1,b.2⟩
 ·have:=l k a u c;rw[W0]at this;have b:=this.2;apply Xh;intro o;have:u∈oq tk ops m k:=X8.2 ⟨k',Xm.2 f,by rw[WM (fun e=>o e.symm)];exact n⟩;rw[←XG]at this;rw[this]at b;cases b
theorem gZ (f:l.size=ops.size):j∈Region.ready .any ops l↔j<ops.size∧¬aZ l j∧∀i∈bL ops j,aZ l i:=by
 rw[mem_ready];unfold aZ bL;constructor
 ·rintro⟨a,o,c,g⟩;have b:j<ops.size:=(Zl.1 c).1;refine⟨b,?_,?_⟩
  ·rw[Xo]at a ⊢;rw[Xg (f ▸ b)]at a ⊢;simp at a ⊢;exact a
  ·rw[c];intro i hi;simp only[WU,XV]at hi;obtain⟨e,⟨d,hb⟩,rfl⟩:=hi;exact g e (by simpa using d) hb
 ·rintro⟨b,a,c⟩;rw[Xg b]at c;refine⟨?_,ops[j],Xg b,fun e d hb=>c e.on ?_⟩
  ·rw[Xo]at a ⊢;rw[Xg (f ▸ b)]at a ⊢;simp at a ⊢;exact a
  ·simp only[WU,XV];exact⟨e,⟨by simpa using d,hb⟩,rfl⟩
theorem DE (c:∀j i,i∈bL ops j→i<j):
  ∀(l:List Oper)(j:Nat)(b:Array Bool)(a:Act)(w:World),b.size=ops.size→(∀i,l[i]?=ops[j+i]?)→(∀i,i<ops.size→(aZ b i↔i<j)) →
   (∀k,j≤k→k<ops.size→∀i,i<k→i∈bL ops k∨∃n∈bL ops k,i<n)→wpList P ops Q l a w→wpAny P .any ops Q l.length b a w:=by
 intro l;induction l with
 |nil =>
  intro j b a w hs s f _ h;have t:ops.size≤j:=by have:=s 0;simp at this;exact this
  refine⟨?_,h⟩;apply XO.2;intro i hi;rw[gZ hs]at hi;exact hi.2.1 ((f i hi.1).2 (by omega))
 |cons o l z =>
  intro j b a w hs s f m h;have v:ops[j]?=some o:=by simpa using (s 0).symm
  have t:j<ops.size:=(Zl.1 v).1;have d:∀i,i∈Region.ready .any ops b↔i=j:=by
   intro i;rw[gZ hs];constructor
   ·rintro⟨x,A,y⟩;have B:¬i<j:=fun q=>A ((f i x).2 q)
    rcases WI j i with g|g
    ·rcases m i (by omega) x j g with q|⟨n,q1,C⟩
     ·exact absurd ((f j t).1 (y j q)) (Yf _)
     ·have D:=c i n q1;have:=(f n (by omega)).1 (y n q1);omega
    ·omega
   ·rintro rfl;exact⟨t,fun q=>Yf _ ((f i t).1 q),fun k p=>(f k (by have:=c i k p;omega)).2 (c i k p)⟩
  show _∧_;refine⟨fun q=>?_,fun i hi=>?_⟩
  ·have:=(d j).2 rfl;rw[q]at this;cases this
  ·rw[d]at hi;subst hi;have r:∀a w,wpList P ops Q l a w→wpAny P .any ops Q l.length (b.setIfInBounds i true) a w:=fun a w h=>by
    refine z (i+1) (b.setIfInBounds i true) a w (by simp[hs]) (fun k=>by have:=s (k+1);simpa[XZ,Y7 1 k]using this) (fun k p=>?_) (fun k p=>m k (by omega)) h;rw[fA,f k p];constructor
    ·rintro(⟨rfl,_⟩|q)<;>omega
    ·intro q;by_cases e:k=i
     ·exact .inl ⟨e,by omega⟩
     ·exact .inr (by omega)
   unfold wpOp;rw[v];simp only;unfold wpList at h;split
   ·rename_i u;rw[Wz u]at h;exact h.imp (Oper.wp_mono r) id
   ·rename_i u;rw[WM u]at h;exact r _ _ h
section
variable  {tab : Tab}{fns : FuncId → Option Func}{C : Sem1}{tk : Nat → Bool}{ops : Array Oper}{m : Nat}{anc : List (List Nat)}
structure Lex (tk:Nat→Bool)(ops:Array Oper)(m:Nat)(anc:List (List Nat))(V0:US)(ts:Nat→Nat):Prop where
 dst:∀j,j<m→∃o,ops[j]?=some o∧o.dst=some (ts j)
 inj:∀i j,i<m→j<m→ts i=ts j→i=j
 any:∀j,j<m→V0[ts j]?=some .any
 tk1:∀k,k<m→∀u,tko tk ops k=some u→∃i,i<m∧i∈anc.getD k []∧ts i=u
 tk2:∀k k' u,k<m→k'<m→tko tk ops k=some u→tko tk ops k'=some u→k=k'
 lt:∀j,j<m→∀i∈anc.getD j [],i<j
structure Shows (tk:Nat→Bool)(ops:Array Oper)(m:Nat)(V0:US)(ts:Nat→Nat)(ss:Nat→Sl Unit Unit)(L:Nat→Prop)(U:US):Prop where
 len:U.length=V0.length
 on:∀j,j<m→L j→(∀k,k<m→L k→tko tk ops k≠some (ts j))→U[ts j]?=some (ss j)
 gone:∀k,k<m→L k→∀u,tko tk ops k=some u→U[u]?=some .any
 off:∀u,(∀j,j<m→L j→ts j≠u)→(∀k,k<m→L k→tko tk ops k≠some u)→U[u]?=V0[u]?
variable  {V0 : US}{ts : Nat → Nat}{ss : Nat → Sl Unit Unit}{L L' : Nat → Prop}{U U' : US}
theorem Shows.any (c:Lex tk ops m anc V0 ts)(h:Shows tk ops m V0 ts ss L U)(d:j<m)(f:¬L j):U[ts j]?=some .any:=by
 by_cases e:∃k,k<m∧L k∧tko tk ops k=some (ts j)
 ·obtain⟨k,g,i,l⟩:=e;exact h.gone k g i _ l
 ·rw[h.off (ts j) (fun k a b e=>f (c.inj k j a d e ▸ b)) fun k a b q=>e ⟨k,a,b,q⟩];exact c.any j d
theorem Shows.set (f:Lex tk ops m anc V0 ts)(h:Shows tk ops m V0 ts ss L U)(l:j<m)(A:¬L j)(r:∀k,k<m→L k→∀i∈anc.getD k [],i<m→L i):Shows tk ops m V0 ts ss (fun i=>i=j∨L i) ((pP tk ops j U).set (ts j) (ss j)):=by
 have s:ts j<U.length:=by
  have:=h.any f l A;rcases WI (ts j) U.length with g|g
  ·exact g
  ·rw[WF g]at this;cases this
 have n:(pP tk ops j U).length=U.length:=by
  unfold pP;split
  ·rfl
  ·rw[Yj]
 have a:∀v,tko tk ops j≠some v→(pP tk ops j U)[v]?=U[v]?:=fun v hv=>by
  unfold pP;split
  ·rfl
  ·rename_i u d;rw[WR];intro e;exact hv (e ▸ d)
 refine⟨by rw[Yj,n];exact h.len,fun k b hL c=>?_,fun k b hL u d=>?_,fun u d c=>?_⟩
 ·by_cases e:k=j
  ·subst e;rw[WN (by rw[n];exact s)]
  ·rw[WR (fun q=>e (f.inj j k l b q).symm),a _ (c j l (.inl rfl))];exact h.on k b (hL.resolve_left e) fun k' t w=>c k' t (.inr w)
 ·obtain⟨i,hi,o,p⟩:=f.tk1 k b u d;have x:ts j≠u:=by
   intro q;have y:i=j:=f.inj i j hi l (p.trans q.symm);subst y;rcases hL with rfl|hL
   ·exact Yf _ (f.lt _ b _ o)
   ·exact A (r k b hL i o hi)
  rw[WR x];by_cases e:tko tk ops j=some u
  ·have z:u<U.length:=by
    have:=f.any i hi;rw[p]at this;rcases WI u V0.length with g|g
    ·rw[h.len];exact g
    ·rw[WF g]at this;cases this
   unfold pP;rw[e];simp only;rw[WN z]
  ·rw[a u e];rcases hL with rfl|hL
   ·exact absurd d e
   ·exact h.gone k b hL u d
 ·rw[WR (d j l (.inl rfl)),a u (c j l (.inl rfl))];exact h.off u (fun k b hL=>d k b (.inr hL)) fun k b hL=>c k b (.inr hL)
theorem Shows.hide (s:Lex tk ops m anc V0 ts)(h:Shows tk ops m V0 ts ss L U)(f:Shows tk ops m V0 ts ss L' U')(v:¬L j)(g:¬L' j)(w:∀i∈anc.getD j [],i<m→L i∧L' i):
  killAll (kw tk ops m anc j) U=killAll (kw tk ops m anc j) U':=by
 refine z7 _ (h.len.trans f.len.symm) fun u x=>?_
 by_cases e:∃i,i<m∧ts i=u
 ·obtain⟨i,hi,rfl⟩:=e;obtain⟨o,y,hd⟩:=s.dst i hi;have b:((anc.getD j []).contains i && !((oq tk ops m j).contains (ts i)))=true:=by apply Xh;intro q;apply x;unfold kw;rw[X8];refine⟨i,Xm.2 hi,?_⟩;rw[y];simp only[Wy,hd];rw[WM q]
  rw[W0,XG]at b;obtain⟨z,c⟩:=b;have d:∀k,k<m→k≠j→tko tk ops k≠some (ts i):=fun k a l q=>by have:ts i∈oq tk ops m j:=X8.2 ⟨k,Xm.2 a,by rw[WM l];exact q⟩;rw[←XG]at this;rw[this]at c;cases c
  obtain⟨q1,A⟩:=w i z hi;rw[h.on i hi q1 fun k a n=>d k a fun e=>v (e ▸ n),f.on i hi A fun k a n=>d k a fun e=>g (e ▸ n)]
 ·have p:∀i,i<m→ts i≠u:=fun i hi q=>e ⟨i,hi,q⟩
  have t:∀k,k<m→tko tk ops k≠some u:=fun k a q=>by obtain⟨i,hi,_,r⟩:=s.tk1 k a u q;exact p i hi r
  rw[h.off u (fun i hi _=>p i hi) fun k a _=>t k a,f.off u (fun i hi _=>p i hi) fun k a _=>t k a]
theorem Shows.ext (n:Lex tk ops m anc V0 ts)(h:Shows tk ops m V0 ts ss L U)(d:Shows tk ops m V0 ts ss L' U')(f:∀i,i<m→L i)(c:∀i,i<m→L' i):U=U':=by
 apply XT;intro u;by_cases g:∃k,k<m∧tko tk ops k=some u
 ·obtain⟨k,a,j⟩:=g;rw[h.gone k a (f k a) u j,d.gone k a (c k a) u j]
 ·have b:∀k,k<m→tko tk ops k≠some u:=fun k a q=>g ⟨k,a,q⟩
  by_cases e:∃i,i<m∧ts i=u
  ·obtain⟨i,hi,rfl⟩:=e;rw[h.on i hi (f i hi) fun k a _=>b k a,d.on i hi (c i hi) fun k a _=>b k a]
  ·have l:∀i,i<m→ts i≠u:=fun i hi q=>e ⟨i,hi,q⟩
   rw[h.off u (fun i hi _=>l i hi) fun k a _=>b k a,d.off u (fun i hi _=>l i hi) fun k a _=>b k a]
theorem Shows.nr (l:Lex tk ops m anc V0 ts)(h:Shows tk ops m V0 ts ss L U)(j:∀u∈jj tk ops m,∀s∈V0,eQ u s=false)(hs:∀i,i<m→∀u∈jj tk ops m,eQ u (ss i)=false):
  ∀u∈jj tk ops m,∀s∈U,eQ u s=false:=by
 intro u f s c;obtain⟨v,hv⟩:=WL c;by_cases g:∃k,k<m∧L k∧tko tk ops k=some v
 ·obtain⟨k,d,a,q⟩:=g;rw[h.gone k d a v q]at hv;cases hv;rfl
 ·have b:∀k,k<m→L k→tko tk ops k≠some v:=fun k d a q=>g ⟨k,d,a,q⟩
  by_cases e:∃i,i<m∧L i∧ts i=v
  ·obtain⟨i,hi,a,rfl⟩:=e;rw[h.on i hi a b]at hv;cases hv;exact hs i hi u f
  ·rw[h.off v (fun i hi a q=>e ⟨i,hi,a,q⟩) b]at hv;exact j u f s (WC hv)
theorem Ot (a:AF tk ops m anc):∀j,j<ops.size→∀i∈anc.getD j [],i<j:=by
 intro j;induction j using Nat.strongRecOn with
 |ind j b =>
  intro c i hi;rcases a.anc j c i hi with g|⟨k,g1,d⟩
  ·exact a.topo j i g
  ·have:=a.topo j k g1;have:=b k this (by omega) i d;omega
theorem Ui (a:AF tk ops m anc):∀j,j<m→∀i∈anc.getD j [],i<j:=fun j b=>Ot a j (by have:=a.le;omega)
theorem yQ (a:AF tk ops m anc){L:Nat→Prop}(hc:∀k,L k→∀i∈bL ops k,L i):∀j,j<ops.size→(∀i∈bL ops j,L i)→∀i∈anc.getD j [],L i:=by
 intro j;induction j using Nat.strongRecOn with
 |ind j c =>
  intro d b i hi;rcases a.anc j d i hi with g|⟨k,g1,e⟩
  ·exact b i g
  ·have f:=a.topo j k g1;exact c k f (by omega) (hc k (b k g1)) i e
theorem Shows.congr {a:Nat→Sl Unit Unit}(h:Shows tk ops m V0 ts ss L U)(e:∀i,i<m→L i→a i=ss i):Shows tk ops m V0 ts a L U :=
 ⟨h.len,fun i hi b c=>by rw[e i hi b];exact h.on i hi b c,h.gone,h.off⟩
theorem Shows.imp (h:Shows tk ops m V0 ts ss L U)(e:∀i,i<m→(L i↔L' i)):Shows tk ops m V0 ts ss L' U :=
 ⟨h.len,fun i hi b c=>h.on i hi ((e i hi).2 b) fun k a d=>c k a ((e k a).1 d),fun k a b=>h.gone k a ((e k a).2 b),fun u f c=>h.off u (fun i hi b=>f i hi ((e i hi).1 b)) fun k a b=>c k a ((e k a).1 b)⟩
theorem Fx:∀(n j:Nat){ss:Nat→Sl Unit Unit}{V U:US},Lex tk ops m anc V0 ts→j+n=m→Shows tk ops m V0 ts ss (fun i=>i<j) V →
  oW tab fns C tk ops m anc n j V=some U→∃a,(∀i,i<j→a i=ss i)∧Shows tk ops m V0 ts a (fun i=>i<m) U∧∀i,j≤i→i<m→∃t,Shows tk ops m V0 ts a (fun k=>k<i) t∧evM tab fns C tk ops m anc i t=some (a i)
 | 0,j,ss,V,U,f,x,l,e=>by
  cases e;have:j=m:=by omega
  subst this;exact⟨ss,fun i _=>rfl,l,fun i p u=>by omega⟩
 |n+1,j,ss,V,U,f,x,l,e=>by
  have d:j<m:=by omega
  simp only[oW,WA]at e;obtain⟨G,g,y⟩:=e;obtain⟨o,z,hd⟩:=f.dst j d;unfold stepM at g;rw[z,Wy,hd]at g;simp only at g;rw[l.any f d (Yf j)]at g;simp only[WD]at g;obtain⟨s,A,rfl⟩:=g;let b:Nat→Sl Unit Unit:=fun i=>if i=j then s else ss i
  have v:b j=s:=by simp[b]
  have w:∀i,i<j→b i=ss i:=fun i hi=>by
   have:i≠j:=by omega
   simp[b,this]
  have h:Shows tk ops m V0 ts b (fun i=>i<j) V:=l.congr fun i _ r=>w i r
  have c:=h.set f d (Yf j) (fun k B r i hi _=>Nat.lt_trans (f.lt k B i hi) r);rw[v]at c;obtain⟨a,p,u,D⟩:=Fx n (j+1) (ss:=b) (V:=(pP tk ops j V).set (ts j) s) f (by omega) (c.imp fun i _=>by constructor<;>intro q<;>omega) y;refine⟨a,fun i hi=>(p i (by omega)).trans (w i hi),u,fun i hi F=>?_⟩;by_cases e:i=j
  ·subst e;refine⟨V,h.congr fun k _ r=>p k (by omega),?_⟩;rw[p i (by omega),v];exact A
  ·exact D i (by omega) F
theorem Ru (h:killAll (kw tk ops m anc j) U=killAll (kw tk ops m anc j) U'):evM tab fns C tk ops m anc j U=evM tab fns C tk ops m anc j U':=by unfold evM;rw[h]
theorem Mt (a:Lex tk ops m anc V0 ts)(hv:∀i,i<m→∃c,Shows tk ops m V0 ts ss (fun k=>k<i) c∧evM tab fns C tk ops m anc i c=some (ss i))(h:Shows tk ops m V0 ts ss L U)(b:j<m)(d:¬L j)(e:∀k∈anc.getD j [],L k):stepM tab fns C tk ops m anc U j=some ((pP tk ops j U).set (ts j) (ss j)):=by
 obtain⟨o,f,hd⟩:=a.dst j b;obtain⟨c,g,l⟩:=hv j b;unfold stepM;rw[f,Wy,hd];simp only;rw[h.any a b d];simp only;rw[Ru (h.hide a g d (Yf j) (fun i hi _=>⟨e i hi,a.lt j b i hi⟩)),l];rfl
theorem KG {s:Sl Unit Unit}(h:evM tab fns C tk ops m anc j U=some s):∀u∈jj tk ops m,eQ u s=false:=by
 unfold evM at h;split at h
 case h_2=>cases h
 split at h
 case h_2=>cases h
 rename_i o c t hd;rw[WA]at h;obtain⟨s',_,a⟩:=h;split at a
 case isFalse=>cases a
 rename_i hc;cases a;intro u b;have:=WS.1 hc u (Ya _ b);simpa using this
end
theorem Bd {n:Nat}(hs:l.size=n)(a:rem.Nodup)(f:∀i,i∈rem↔i<n∧¬aZ l i)(c:j∈rem):
  (rem.erase j).Nodup∧(∀i,i∈rem.erase j↔i<n∧¬aZ (l.setIfInBounds j true) i)∧(rem.erase j).length+1=rem.length:=by
 refine⟨a.erase j,fun i=>?_,?_⟩
 ·rw[a.mem_erase_iff,f i,fA];have:=(f j).1 c;constructor
  ·rintro⟨d,b,h⟩;exact⟨b,fun q=>q.elim (fun g=>d g.1) h⟩
  ·rintro⟨d,b⟩;exact⟨fun e=>b (.inl ⟨e,by omega⟩),d,fun q=>b (.inr q)⟩
 ·have:=YO c;have:=YV c;omega
theorem SF {tab:Tab}(ok:bz P tab){fns:FuncId→Option Func}(hf:jk P fns){C:Sem1}(hC:ie P B C cx){anc:List (List Nat)}(e:AF tk ops m anc){V0:US}{ts:Nat→Nat}(J:Lex tk ops m anc V0 ts)(hv:∀i,i<m→∃L,Shows tk ops m V0 ts ss (fun k=>k<i) L∧evM tab fns C tk ops m anc i L=some (ss i))(h0:∀u∈jj tk ops m,∀s∈V0,eQ u s=false){M:US}(N:Shows tk ops m V0 ts ss (fun i=>i<m) M){T:Act→Prop}(hT:∀o∈ops.toList,∀a y,T a→T (a.put o.dst y))(hQ:∀D a w,Inv cx D [] a.tmps w→T a→erD D=M→wpList P ops Q (ops.toList.drop m) a w):
  ∀(n:Nat)(rem:List Nat)(b:Array Bool)(D:DSt)(a:Act)(w:World),rem.length=n→b.size=ops.size→rem.Nodup→(∀i,i∈rem↔i<ops.size∧¬aZ b i) →
   (∀i,m≤i→i<ops.size→¬aZ b i)→(∀k,aZ b k→∀i∈bL ops k,aZ b i)→Inv cx D [] a.tmps w→T a→Shows tk ops m V0 ts ss (aZ b) (erD D)→wpAny P .any ops Q n b a w:=by
 intro n;have tail:∀(rem:List Nat)(b:Array Bool)(D:DSt)(a:Act)(w:World),b.size=ops.size→rem.Nodup→(∀i,i∈rem↔i<ops.size∧¬aZ b i) →
   (∀i,m≤i→i<ops.size→¬aZ b i)→(∀i,i<m→aZ b i)→Inv cx D [] a.tmps w→T a→Shows tk ops m V0 ts ss (aZ b) (erD D)→wpAny P .any ops Q rem.length b a w:=by
  intro rem b D a w hs f l d c I hd p;have A:(ops.toList.drop m).length=rem.length:=by
   have z:rem.Perm ((List.range ops.size).drop m):=by
    refine(Yx f (List.nodup_range.sublist (YS _ _))).2 fun i=>?_
    rw[l i,List.mem_iff_getElem?];constructor
    ·rintro⟨q1,F⟩;have:m≤i:=by
      rcases WI i m with g|g
      ·exact absurd (c i g) F
      ·exact g
     exact⟨i-m,by rw[Xx,XS (by omega)];congr 1;omega⟩
    ·rintro⟨k,hk⟩;rw[Xx]at hk;have r:m+k<ops.size:=by
      rcases WI (m+k) ops.size with g|g
      ·exact g
      ·rw[WF (by simpa using g)]at hk;cases hk
     rw[XS r]at hk;cases hk;exact⟨r,d _ (by omega) r⟩
   have:=z.length_eq;simp at this ⊢;omega
  rw[←A];have hE:erD D=M:=p.ext J N c (fun i hi=>hi);refine DE (e.topo) (ops.toList.drop m) m b a w hs (fun i=>by rw[Xx];simp) (fun i hi=>?_) (fun k z t i hi=>(e.seq k z t i hi).imp id fun⟨h,q1,F⟩=>⟨h,q1,Ot e h (by have:=e.topo k h q1;omega) i F⟩) (hQ D a w I hd hE);constructor
  ·intro q;rcases WI i m with g|g
   ·exact g
   ·exact absurd q (d i g hi)
  ·exact c i
 induction n with
 |zero =>
  intro rem b D a w O hs f l d hc I hd p;have he:rem=[]:=XH.1 O;have:=tail rem b D a w hs f l d (fun i hi=>by
   by_cases q:aZ b i
   ·exact q
   ·have:=(l i).2 ⟨by have:=e.le;omega,q⟩;rw[he]at this;cases this) I hd p
  rw[he]at this;exact this
 |succ n ih =>
  intro rem b D a w O hs f l d hc I hd p;by_cases c:∀i,i<m→aZ b i
  ·have:=tail rem b D a w hs f l d c I hd p;rw[O]at this;exact this
  ·have v:∃j,j<m∧¬aZ b j∧∀i,i<j→aZ b i:=by
    have R:∃j,j<m∧¬aZ b j:=by apply Xh;intro q;exact c fun i hi=>Xh fun S=>q ⟨i,hi,S⟩
    obtain⟨j,z,t⟩:=R;induction j using Nat.strongRecOn with
    |ind j U =>
     by_cases q:∀i,i<j→aZ b i
     ·exact⟨j,z,t,q⟩
     ·have:∃i,i<j∧¬aZ b i:=Xh fun S=>q fun i hi=>Xh fun V=>S ⟨i,hi,V⟩
      obtain⟨i,hi,W⟩:=this;exact U i hi (by omega) W
   obtain⟨G,z,t,h3⟩:=v;show _∧_;refine⟨fun q=>?_,fun j hj=>?_⟩
   ·have:G∈Region.ready .any ops b:=(gZ hs).2 ⟨by have:=e.le;omega,t,fun i hi=>h3 i (e.topo G i hi)⟩;rw[q]at this;cases this
   ·obtain⟨X,Y,K⟩:=(gZ hs).1 hj;have x:j<m:=by
     rcases WI j m with g|g
     ·exact g
     ·rcases e.seq j g X G (by omega)with q|⟨h,q1,F⟩
      ·exact absurd (K G q) t
      ·exact absurd (yQ e (fun k hk i hi=>hc k hk i hi) h (by have:=e.topo j h q1;omega) (fun i hi=>hc h (K h q1) i hi) G F) t
    have H:∀k∈anc.getD j [],aZ b k:=yQ e (fun k hk i hi=>hc k hk i hi) j X K;have Z:=Mt J hv p x Y H;have Z0:=p.nr J h0 (fun i hi=>by obtain⟨L,_,q⟩:=hv i hi;exact KG q);refine I.stepM ok hf hC x Z0 Z fun D' a' w' e1 e2 e3=>?_
    have Z1:j∈rem:=(l j).2 ⟨X,Y⟩;obtain⟨h,k2,k3⟩:=Bd hs f l Z1;refine ih (rem.erase j) (b.setIfInBounds j true) D' a' w' (by omega) (by simp[hs]) h k2 (fun i h4 h5 q=>?_) (fun k hk i hi=>?_) e3 (by obtain⟨o,y,q1,rfl⟩:=e2;exact hT o (WC (by simpa using q1)) a y hd) ?_
    ·rw[fA]at q;rcases q with⟨q,_⟩|q
     ·omega
     ·exact d i h4 h5 q
    ·rw[fA]at hk ⊢;rcases hk with⟨rfl,_⟩|hk
     ·exact .inr (K i hi)
     ·exact .inr (hc k hk i hi)
    ·rw[e1];refine(p.set J x Y (fun k hk hL i hi _=>yQ e (fun k hk i hi=>hc k hk i hi) k (by have:=e.le;omega) (fun i hi=>hc k hL i hi) i hi)).imp fun i _=>?_
     rw[fA];constructor
     ·rintro(q|q)
      ·exact .inl ⟨q,by omega⟩
      ·exact .inr q
     ·rintro(⟨q,_⟩|q)
      ·exact .inl q
      ·exact .inr q
theorem d9 {n i:Nat}:¬aZ (Array.replicate n false) i:=by intro q;unfold aZ at q;rw[Xo,Array.getElem?_replicate]at q;split at q<;>cases q
theorem s6 {α β:Type}{f:α→Option β}{g:α→β}:∀{l:List α},(∀i∈l,f i=some (g i))→l.filterMap f=l.map g
 |[],_=>rfl
 |a::l,h=>by rw[List.filterMap_cons,h a (by simp),WT,s6 fun i hi=>h i (by simp[hi])]
theorem Inv.runD {tab:Tab}(ok:bz P tab)(W:P.follows .mixedOrders=true){fns:FuncId→Option Func}(hf:jk P fns){C:Sem1}(O:ie P B C cx){anc:List (List Nat)}{T:Act→Prop}(R:∀o∈ops.toList,∀a y,T a→T (a.put o.dst y))(X:∀D' G w',erD D'=U→T G→Inv cx D' [] G.tmps w'→Q .normal G w')(I:Inv cx D [] a.tmps w)(hd:T a)(e:Am.runD tab fns C tk ops m anc (erD D)=some U):(Code.region id ops true).wp P Q a w:=by
 unfold Am.runD at e;split at e
 case isFalse=>cases e
 rename_i H;rw[W0,W0]at H;obtain⟨⟨H,n⟩,f⟩:=H;have l:=SS H;rw[WA]at e;obtain⟨Vm,K,Y⟩:=e;rw[←lO]at K f;have S:=(I.drewn).killAll (dw ops m);generalize L:Am.killAll (dw ops m) D=p at K S f;have b:∃ts:Nat→Nat,∀j,j<m→(ops[j]?).bind (·.dst)=some (ts j):=by refine⟨fun j=>((ops[j]?).bind (·.dst)).getD 0,fun j c=>?_⟩;obtain⟨t,Z⟩:=l.dst j c;simp[Z]
 obtain⟨ts,b⟩:=b;have r:∀j,j<m→∃o,ops[j]?=some o∧o.dst=some (ts j):=fun j c=>by have:=b j c;rw[WA]at this;exact this
 have v:∀i j,i<m→j<m→ts i=ts j→i=j:=by
  have x:dw ops m=(List.range m).map ts:=by unfold dw;exact s6 fun i hi=>b i (Xm.1 hi)
  have z:=l.nodup;rw[x]at z;intro i j hi c h;have:=(Zo.1 z)
  rcases YH i j with g|g|g
  ·exact absurd h (X5.1 this i j (by simpa using hi) (by simpa using c) g|> fun q=>by simpa using q)
  ·exact g
  ·exact absurd h.symm (X5.1 this j i (by simpa using c) (by simpa using hi) g|> fun q=>by simpa using q)
 have d:∀j,j<m→ts j∈dw ops m:=fun j c=>X8.2 ⟨j,Xm.2 c,b j c⟩
 have V:Lex tk ops m anc (erD p) ts:=⟨r,v,fun j c=>by rw[←L,lO];refine wV _ ?_ (.inl (d j c));simpa using WS.1 n _ (d j c),fun k J u M=>by obtain⟨i,hi,N,A⟩:=l.tk1 k J u M;rw[b i hi]at A;exact⟨i,hi,N,by cases A;rfl⟩,l.tk2,Ui l⟩
 have h0:Shows tk ops m (erD p) ts (fun _=>.any) (fun i=>i<0) (erD p):=⟨rfl,fun j _ q=>by omega,fun j _ q=>by omega,fun u _ _=>rfl⟩
 obtain⟨ss,_,k2,k3⟩:=Fx m 0 V (by omega) h0 K;have F:∀u∈jj tk ops m,∀s∈erD p,eQ u s=false:=fun u M s hs=>by have:=WS.1 (WS.1 f s hs) u M;simpa using this
 refine wp_region_any W ?_;refine SF ok hf O l V (fun i hi=>k3 i (YM i) hi) F k2 (T:=T) R (fun D' G w' q1 q2 q3=>?_) ops.size (List.range ops.size) _ p a _ (by simp) (by simp) Y1 (fun i=>?_) (fun i h1 h2 q=>?_) (fun k J=>?_) S hd ?_
 ·exact Inv.runOps (tk:=tk) ok hf O X _ m (fun o ho=>R o (XM ho)) q1 q2 (by rw[q3];exact Y)
 ·rw[Xm];constructor
  ·intro q;exact⟨q,d9⟩
  ·exact fun q=>q.1
 ·exact d9 q
 ·exact absurd J d9
 ·exact⟨rfl,fun j c q=>absurd q d9,fun k J q=>absurd q d9,fun u _ _=>rfl⟩
def xj (σ:List Nat)(o:Oper):Oper:={ o with after:=o.after.map fun e=>{ e with on:=σ.idxOf e.on },guard:=o.guard.map fun g=>(σ.idxOf g.1,g.2) }
def du (σ:List Nat)(ops:Array Oper):Array Oper:=((σ.filterMap fun j=>ops[j]?).map (xj σ)).toArray
def J3 (σ:List Nat)(n:Nat):Bool:=decide σ.Nodup&&σ.all (fun j=>decide (j<n))&&(List.range n).all (fun j=>σ.contains j)
structure PermOk (σ:List Nat)(n:Nat):Prop where
 nodup:σ.Nodup
 lt:∀j∈σ,j<n
 mem:∀j,j<n→j∈σ
theorem Tn {n:Nat}(h:J3 σ n=true):PermOk σ n:=by unfold J3 at h;simp only[W0,Xv,WS,Xm,XG]at h;exact⟨h.1.1,h.1.2,h.2⟩
section
variable  {σ : List Nat}{ops : Array Oper}
theorem FE (h : ∀ j ∈ σ, j < ops.size) : du σ ops = ((σ.map fun j => xj σ (ops[j]?.getD ⟨none, .alloc 0, 0, "", #[], none⟩))).toArray := by
 unfold du;congr 1;have : ∀ l : List Nat, (∀ j ∈ l, j < ops.size) → (l.filterMap fun j => ops[j]?).map (xj σ) = l.map fun j => xj σ (ops[j]?.getD ⟨none, .alloc 0, 0, "", #[], none⟩) := by
  intro l a;induction l with
  |nil=>rfl
  |cons j l c =>have b:=Xg (a j (by simp));rw[List.filterMap_cons,b];simp only[WT,b,YA];rw[c fun k d=>a k (by simp[d])]
 exact this σ h
theorem PermOk.len {n:Nat}(h:PermOk σ n):σ.length=n:=by
 have a:σ.Perm (List.range n):=(Yx h.nodup Y1).2 fun j=>by rw[Xm];exact⟨h.lt j,h.mem j⟩
 rw[a.length_eq,Zm]
theorem BW (h:PermOk σ ops.size)(j:Nat):(du σ ops)[σ.idxOf j]?=(ops[j]?).map (xj σ):=by
 rw[FE h.lt];rcases WI j ops.size with g|g
 ·have a:=h.mem j g;have hi:σ.idxOf j<σ.length:=Ym.2 a;rw[Xg g];simp[WQ,WE hi,Zf hi,Xg g]
 ·have a:j∉σ:=fun q=>by have:=h.lt j q;omega
  rw[Xz g,List.idxOf_eq_length a];simp[h.len]
theorem FF (h:PermOk σ ops.size):(du σ ops).size=ops.size:=by rw[FE h.lt];simp[h.len]
theorem R8 (h:PermOk σ ops.size)(j:Nat):bL (du σ ops) (σ.idxOf j)=(bL ops j).map (σ.idxOf ·):=by
 unfold bL;rw[BW h];cases ops[j]? with
 |none=>rfl
 |some o =>simp only[WB,xj,Array.toList_map,Xk,List.filter_map];congr 1
theorem NQ (h:PermOk σ ops.size)(tm:Array Value)(j:Nat):yielded (du σ ops) tm (σ.idxOf j)=yielded ops tm j:=by
 unfold yielded;rw[BW h];cases ops[j]? with
 |none=>rfl
 |some o=>rfl
theorem LE (h:PermOk σ ops.size)(tm:Array Value)(o:Oper):Region.wanted (xj σ o) (yielded (du σ ops) tm)=Region.wanted o (yielded ops tm):=by
 unfold Region.wanted xj;cases o.guard with
 |none=>rfl
 |some g =>obtain⟨g,a⟩:=g;simp only[WB];rw[NQ h]
theorem T9 {o:Oper}{K:Act→World→Prop}:(xj σ o).wp P a w K Q=o.wp P a w K Q:=rfl
theorem Se {o:Oper}:(xj σ o).asks P a w=o.asks P a w:=rfl
theorem QP (h:PermOk σ ops.size):∀(k:Nat)(c b:Array Bool)(a:Act)(w:World),c.size=ops.size→b.size=ops.size→(∀j,aZ c j↔aZ b (σ.idxOf j)) →
  wpAny P .any (du σ ops) Q k b a w→wpAny P .any ops Q k c a w:=by
 have hz:=FF h;have u:∀{c b:Array Bool},c.size=ops.size→b.size=ops.size→(∀j,aZ c j↔aZ b (σ.idxOf j))→∀j,j∈Region.ready .any ops c↔(j<ops.size∧σ.idxOf j∈Region.ready .any (du σ ops) b):=by
  intro c b hs d g j;rw[gZ hs,gZ (by rw[d,hz]),hz,R8 h];constructor
  ·rintro⟨t,f,v⟩;have hi:σ.idxOf j<ops.size:=by rw[←h.len];exact Ym.2 (h.mem j t)
   refine⟨t,hi,fun q=>f ((g j).2 q),fun i hi=>?_⟩;obtain⟨D,x,rfl⟩:=WU.1 hi;exact(g D).1 (v D x)
  ·rintro⟨t,_,f,v⟩;exact⟨t,fun q=>f ((g j).1 q),fun i hi=>(g i).2 (v _ (Ye hi))⟩
 have l:∀{c b:Array Bool},c.size=ops.size→b.size=ops.size→(∀j,aZ c j↔aZ b (σ.idxOf j))→(Region.ready .any ops c=[]↔Region.ready .any (du σ ops) b=[]):=by
  intro c b hs d g;rw[XO,XO];constructor
  ·intro q p F;have r:=((gZ (by rw[d,hz])).1 F).1;rw[hz, ←h.len]at r;have e:σ.idxOf σ[p]=p:=h.nodup.idxOf_getElem p r;exact q σ[p] ((u hs d g _).2 ⟨h.lt _ (XW _),by rw[e];exact F⟩)
  ·exact fun q j y=>q _ ((u hs d g j).1 y).2
 intro k;induction k with
 |zero =>intro c b a w hs d g s;exact⟨(l hs d g).2 s.1,s.2⟩
 |succ k I =>
  intro c b a w hs d g s;refine⟨fun q=>s.1 ((l hs d g).1 q),fun j y=>?_⟩;obtain⟨m,z⟩:=(u hs d g j).1 y;have f:=s.2 _ z;have n:∀a w,wpAny P .any (du σ ops) Q k (b.setIfInBounds (σ.idxOf j) true) a w→wpAny P .any ops Q k (c.setIfInBounds j true) a w:=fun a w=>by
   refine I _ _ a w (by simp[hs]) (by simp[d]) fun i=>?_
   rw[fA,fA,g i,hs,d];have hi:σ.idxOf j<ops.size:=by rw[←h.len];exact Ym.2 (h.mem j m)
   constructor
   ·rintro(⟨rfl,_⟩|q)
    ·exact .inl ⟨rfl,hi⟩
    ·exact .inr q
   ·rintro(⟨e,_⟩|q)
    ·refine .inl ⟨?_,m⟩;have A:=h.mem j m;have B:i∈σ:=by apply Xh;intro q;rw[List.idxOf_eq_length q,h.len]at e;omega
     have G:=Zf (Ym.2 B);have J:=Zf (Ym.2 A);simp only[e]at G;exact G.symm.trans J
    ·exact .inr q
  unfold wpOp at f ⊢;rw[BW h]at f;cases H:ops[j]? with
  |none=>rw[H]at f;exact n _ _ f
  |some o =>
   rw[H]at f;simp only[WB,LE h]at f ⊢;split
   ·rename_i C;rw[Wz C,T9,Se]at f;exact f.imp (Oper.wp_mono n) id
   ·rename_i C;rw[WM C]at f;exact n _ _ f
end
def stepE (tab:Tab)(fns:FuncId→Option Func)(C:Sem1)(tk:Nat→Bool)(ops:Array Oper)(j:Nat)(D:US):Option US :=(ops[j]?).bind fun o=>runOps tab fns C tk ops [o] j D
def nl (tab:Tab)(fns:FuncId→Option Func)(C:Sem1)(tk:Nat→Bool)(ops:Array Oper):Nat→List Nat→US→List (Option US)
 | 0,rem,D=>match rem with|[]=>[some D]|_=>[none]
 |n+1,rem,D =>
  match rem.filter (fun j=>(bL ops j).all fun i => !rem.contains i)with
  |[]=>[none]
  |j::a=>(j::a).flatMap fun j=>match stepE tab fns C tk ops j D with
   |some D'=>nl tab fns C tk ops n (rem.erase j) D'
   |none=>[none]
def jY {α:Type}:List (Option α)→α→Prop|[],_=>True|x::r,U=>x=some U∧jY r U
theorem vG {α:Type}{U:α}:∀{l:List (Option α)},jY l U→∀x∈l,x=some U
 |[],_,x,hx=>by cases hx
 |y::l,h,x,hx=>by
  rcases WZ.1 hx with rfl|hx
  ·exact h.1
  ·exact vG h.2 x hx
theorem Inv.stepE {tab:Tab}(ok:bz P tab){fns:FuncId→Option Func}(hf:jk P fns){C:Sem1}(v:ie P B C cx)(I:Inv cx D [] a.tmps w)(e:Am.stepE tab fns C tk ops j (erD D)=some U){K:Act→World→Prop}(p:∀D' l w',erD D'=U→(∃o y,ops[j]?=some o∧l=a.put o.dst y)→Inv cx D' [] l.tmps w'→K l w'):wpOp P ops Q j K a w:=by
 unfold Am.stepE at e;rw[WA]at e;obtain⟨o,m,e⟩:=e;have d:∀{x:Option US},(x.bind (Am.runOps tab fns C tk ops [] (j+1)))=some U→x=some U:=fun {x} h=>by rw[WA]at h;obtain⟨V,i,q⟩:=h;cases q;exact i
 unfold wpOp;rw[m];simp only;have r:Region.wanted o (yielded ops a.tmps)=true→(Am.stepU tab fns C (erD D) o (tk j))=some U→(if Region.wanted o (yielded ops a.tmps)=true then o.wp P a w K Q∨o.asks P a w∧LetsOut Q else K (a.put o.dst undef) w):=by intro z e;rw[Wz z];exact .inl (I.stepU ok hf v e fun D' l w' d i q=>p D' l w' d (i.elim fun y h=>⟨o,y,m,h⟩) q)
 unfold Am.runOps at e;split at e
 ·rename_i n;exact r (by simp[Region.wanted,n]) (d e)
 ·rename_i g s n;split at e
  case h_2=>cases e
  rename_i b hb;have u:yielded ops a.tmps g=b:=by rw[WA]at hb;obtain⟨t,d,i⟩:=hb;rw[y5]at i;have:=I.yieldAt i;unfold yielded;rw[d];exact this
  split at e
  ·rename_i f;exact r (by simp[Region.wanted,n,u,f]) (d e)
  ·rename_i f;have k:=d e;rw[WM (by simp[Region.wanted,n,u,f])];split at k
   ·rename_i c;cases k;exact p D _ _ rfl ⟨o,undef,m,rfl⟩ (by rw[c];exact I)
   ·rename_i t c;rw[fO]at k;split at k
    case isFalse=>cases k
    rename_i A;cases k;exact p _ _ _ (Cw D t _) ⟨o,undef,m,rfl⟩ (by rw[c];exact I.putUndef A)
theorem F1 {tab:Tab}(ok:bz P tab){fns:FuncId→Option Func}(hf:jk P fns){C:Sem1}(A:ie P B C cx){T:Act→Prop}(F:∀o∈ops.toList,∀a y,T a→T (a.put o.dst y))(G:∀D' h w',erD D'=U→T h→Inv cx D' [] h.tmps w'→Q .normal h w'):
  ∀(n:Nat)(rem:List Nat)(b:Array Bool)(D:DSt)(a:Act)(w:World),rem.length=n→b.size=ops.size→rem.Nodup→(∀i,i∈rem↔i<ops.size∧¬aZ b i)→(∀j i,i∈bL ops j→i<ops.size) →
   Inv cx D [] a.tmps w→T a→(∀x∈nl tab fns C tk ops n rem (erD D),x=some U)→wpAny P .any ops Q n b a w:=by
 intro n;have c:∀{rem:List Nat}{b:Array Bool},b.size=ops.size→(∀i,i∈rem↔i<ops.size∧¬aZ b i)→(∀j i,i∈bL ops j→i<ops.size)→∀j,j∈Region.ready .any ops b↔j∈rem.filter (fun j=>(bL ops j).all fun i => !rem.contains i):=by
  intro rem b hs d e j;rw[gZ hs,XV,d,WS];constructor
  ·rintro⟨m,p,r⟩;refine⟨⟨m,p⟩,fun i hi=>?_⟩;have:i∉rem:=fun q=>((d i).1 q).2 (r i hi)
   simpa using this
  ·rintro⟨⟨m,p⟩,r⟩;refine⟨m,p,fun i hi=>?_⟩;have:=r i hi;have H:i∉rem:=by simpa using this
   apply Xh;intro q;exact H ((d i).2 ⟨e j i hi,q⟩)
 induction n with
 |zero =>
  intro rem b D a w z hs k d e I hd f;have J:rem=[]:=XH.1 z;subst J;refine⟨?_,?_⟩
  ·apply XO.2;intro i hi;rw[c hs d e]at hi;cases hi
  ·have:=f (some (erD D)) (by simp[nl]);cases this;exact G D a w rfl hd I
 |succ n K =>
  intro rem b D a w z hs k d e I hd f;show _∧_;unfold nl at f;cases hc:rem.filter (fun j=>(bL ops j).all fun i => !rem.contains i)with
  |nil=>rw[hc]at f;have:=f none (by simp);cases this
  |cons L V =>
   refine⟨fun q=>?_,fun j l=>?_⟩
   ·have:L∈Region.ready .any ops b:=by rw[c hs d e,hc];simp
    rw[q]at this;cases this
   ·have s:=l;rw[c hs d e]at l;have t:=(XV.1 l).1;rw[hc]at f l;have g:∀x∈(match Am.stepE tab fns C tk ops j (erD D)with|some D'=>nl tab fns C tk ops n (rem.erase j) D'|none=>[none]),x=some U:=fun x u=>f x (WP.2 ⟨j,l,u⟩)
    split at g
    ·rename_i D1 v;refine I.stepE ok hf A v fun D' h w' M N O=>?_
     obtain⟨W,X,Y⟩:=(gZ hs).1 s;obtain⟨R,S,Z⟩:=Bd hs k d t;refine K (rem.erase j) (b.setIfInBounds j true) D' h w' (by omega) (by simp[hs]) R S e O (by obtain⟨o,y,q1,rfl⟩:=N;exact F o (WC (by simpa using q1)) a y hd) (by rw[M];exact g)
    ·have:=g none (by simp);cases this
def EL (tk:Nat→Bool)(ops:Array Oper)(m0:Nat)(anc:List (List Nat)):Bool :=
 decide (m0+1≤ops.size) &&
 (List.range ops.size).all (fun j=>(bL ops j).all fun i=>decide (i<j)) &&
 (List.range (m0+1)).all (fun j=>((ops[j]?).bind (·.dst)).isSome)&&decide ((dw ops (m0+1)).Nodup) &&
 (List.range ops.size).all (fun j=>(anc.getD j []).all fun i=>(bL ops j).contains i ||(bL ops j).any fun k=>(anc.getD k []).contains i) &&
 (List.range ops.size).all (fun j=>decide (j<m0+1)||(List.range m0).all fun i=>(bL ops j).contains i ||(bL ops j).any fun k=>(anc.getD k []).contains i) &&
 (List.range (m0+1)).all (fun k=>match tko tk ops k with
  |some u=>(List.range (m0+1)).any (fun i=>(anc.getD k []).contains i&&decide ((ops[i]?).bind (·.dst)=some u)) && !((oq tk ops (m0+1) k).contains u)
  |none=>true)
structure xz (tk:Nat→Bool)(ops:Array Oper)(m0:Nat)(anc:List (List Nat)):Prop where
 le:m0+1≤ops.size
 topo:∀j i,i∈bL ops j→i<j
 dst:∀j,j<m0+1→∃t,(ops[j]?).bind (·.dst)=some t
 nodup:(dw ops (m0+1)).Nodup
 seq:∀j,m0+1≤j→j<ops.size→∀i,i<m0→i∈bL ops j∨∃k∈bL ops j,i∈anc.getD k []
 tk1:∀k,k<m0+1→∀u,tko tk ops k=some u→∃i,i<m0+1∧i∈anc.getD k []∧(ops[i]?).bind (·.dst)=some u
 tk2:∀k k' u,k<m0+1→k'<m0+1→tko tk ops k=some u→tko tk ops k'=some u→k=k'
 anc:∀j,j<ops.size→∀i∈anc.getD j [],i∈bL ops j∨∃k∈bL ops j,i∈anc.getD k []
theorem Rb {anc:List (List Nat)}(h:EL tk ops m0 anc=true):xz tk ops m0 anc:=by
 unfold EL at h;rw[W0]at h;obtain⟨h,o⟩:=h;simp only[W0,WS,Xm,Xv,YN,XG,XX]at h;obtain⟨⟨⟨⟨⟨p,q⟩,r⟩,s⟩,t⟩,v⟩:=h;have l:∀k,k<m0+1→∀u,tko tk ops k=some u→((List.range (m0+1)).any (fun i=>(anc.getD k []).contains i&&decide ((ops[i]?).bind (·.dst)=some u)) && !((oq tk ops (m0+1) k).contains u))=true:=fun k l u c=>by have:=WS.1 o k (Xm.2 l);rw[c]at this;exact this
 refine⟨p,fun j i hi=>?_,fun j d=>Yl.1 (r j d),s,fun j w d i hi=>?_,fun k a u c=>?_,fun k k' u a f c m=>?_,fun j d i hi=>t j d i hi⟩
 ·rcases WI j ops.size with g|g
  ·exact q j g i hi
  ·unfold bL at hi;rw[Xz g]at hi;cases hi
 ·rcases v j d with g|g
  ·omega
  ·exact g i hi
 ·have:=l k a u c;rw[W0,XX]at this;obtain⟨⟨i,hi,b⟩,_⟩:=this;rw[W0,XG,Xv]at b;exact⟨i,Xm.1 hi,b.1,b.2⟩
 ·have:=l k a u c;rw[W0]at this;have b:=this.2;apply Xh;intro n;have:u∈oq tk ops (m0+1) k:=X8.2 ⟨k',Xm.2 f,by rw[WM (fun e=>n e.symm)];exact m⟩;rw[←XG]at this;rw[this]at b;cases b
section
variable  {tab : Tab}{fns : FuncId → Option Func}{C : Sem1}{tk : Nat → Bool}{ops : Array Oper}{m m0 : Nat}{anc : List (List Nat)}{V0 : US}{ts : Nat → Nat}{ss : Nat → Sl Unit Unit}{L L' : Nat → Prop}{U U' : US}
theorem SI (a:xz tk ops m0 anc):∀j,j<ops.size→∀i∈anc.getD j [],i<j:=by
 intro j;induction j using Nat.strongRecOn with
 |ind j b =>
  intro c i hi;rcases a.anc j c i hi with g|⟨k,g1,d⟩
  ·exact a.topo j i g
  ·have:=a.topo j k g1;have:=b k this (by omega) i d;omega
theorem TN (a:xz tk ops m0 anc):∀j,j<m0+1→∀i∈anc.getD j [],i<j:=fun j b=>SI a j (by have:=a.le;omega)
theorem wJ (a:xz tk ops m0 anc){L:Nat→Prop}(hc:∀k,L k→∀i∈bL ops k,L i):∀j,j<ops.size→(∀i∈bL ops j,L i)→∀i∈anc.getD j [],L i:=by
 intro j;induction j using Nat.strongRecOn with
 |ind j c =>
  intro d b i hi;rcases a.anc j d i hi with g|⟨k,g1,e⟩
  ·exact b i g
  ·have f:=a.topo j k g1;exact c k f (by omega) (hc k (b k g1)) i e
theorem Shows.ext2 (h:Shows tk ops m V0 ts ss L U)(d:Shows tk ops m V0 ts ss L U'):U=U':=by
 refine XT fun u=>?_
 by_cases f:∃k,k<m∧L k∧tko tk ops k=some u
 ·obtain⟨k,c,a,q⟩:=f;rw[h.gone k c a u q,d.gone k c a u q]
 ·have b:∀k,k<m→L k→tko tk ops k≠some u:=fun k c a q=>f ⟨k,c,a,q⟩
  by_cases e:∃i,i<m∧L i∧ts i=u
  ·obtain⟨i,hi,a,rfl⟩:=e;rw[h.on i hi a b,d.on i hi a b]
  ·have g:∀i,i<m→L i→ts i≠u:=fun i hi a q=>e ⟨i,hi,a,q⟩
   rw[h.off u g b,d.off u g b]
theorem xf:∀(n j:Nat){ss:Nat→Sl Unit Unit}{V U:US},Lex tk ops m anc V0 ts→j+n≤m→Shows tk ops m V0 ts ss (fun i=>i<j) V →
  oW tab fns C tk ops m anc n j V=some U→∃a,(∀i,i<j→a i=ss i)∧Shows tk ops m V0 ts a (fun i=>i<j+n) U∧∀i,j≤i→i<j+n→∃t,Shows tk ops m V0 ts a (fun k=>k<i) t∧evM tab fns C tk ops m anc i t=some (a i)
 | 0,j,ss,V,U,f,x,l,e=>by cases e;exact⟨ss,fun i _=>rfl,l,fun i p u=>by omega⟩
 |n+1,j,ss,V,U,f,x,l,e=>by
  have d:j<m:=by omega
  simp only[oW,WA]at e;obtain⟨F,g,y⟩:=e;obtain⟨o,z,hd⟩:=f.dst j d;unfold stepM at g;rw[z,Wy,hd]at g;simp only at g;rw[l.any f d (Yf j)]at g;simp only[WD]at g;obtain⟨s,A,rfl⟩:=g;let b:Nat→Sl Unit Unit:=fun i=>if i=j then s else ss i
  have v:b j=s:=by simp[b]
  have w:∀i,i<j→b i=ss i:=fun i hi=>by
   have:i≠j:=by omega
   simp[b,this]
  have h:Shows tk ops m V0 ts b (fun i=>i<j) V:=l.congr fun i _ r=>w i r
  have c:=h.set f d (Yf j) (fun k B r i hi _=>Nat.lt_trans (f.lt k B i hi) r);rw[v]at c;obtain⟨a,p,u,D⟩:=xf n (j+1) (ss:=b) (V:=(pP tk ops j V).set (ts j) s) f (by omega) (c.imp fun i _=>by constructor<;>intro q<;>omega) y;refine⟨a,fun i hi=>(p i (by omega)).trans (w i hi),u.imp (fun i _=>by constructor<;>intro q<;>omega),fun i hi G=>?_⟩;by_cases e:i=j
  ·subst e;refine⟨V,h.congr fun k _ r=>p k (by omega),?_⟩;rw[p i (by omega),v];exact A
  ·exact D i (by omega) (by omega)
end
theorem QQ {tab:Tab}(ok:bz P tab){fns:FuncId→Option Func}(hf:jk P fns){C:Sem1}(X:ie P B C cx){anc:List (List Nat)}(c:xz tk ops m0 anc){V0:US}{ts:Nat→Nat}(A:Lex tk ops (m0+1) anc V0 ts)(hv:∀i,i<(m0+1)→∃F,Shows tk ops (m0+1) V0 ts ss (fun k=>k<i) F∧evM tab fns C tk ops (m0+1) anc i F=some (ss i))(Y:∀u∈jj tk ops (m0+1),∀s∈V0,eQ u s=false){T:Act→Prop}(Z:∀o∈ops.toList,∀a y,T a→T (a.put o.dst y))(tail:∀(rem:List Nat)(b:Array Bool)(D:DSt)(a:Act)(w:World),b.size=ops.size→rem.Nodup→(∀i,i∈rem↔i<ops.size∧¬aZ b i) →
   (∀i,(m0+1)≤i→i<ops.size→¬aZ b i)→(∀i,i<m0→aZ b i)→Inv cx D [] a.tmps w→T a→Shows tk ops (m0+1) V0 ts ss (aZ b) (erD D)→wpAny P .any ops Q rem.length b a w):
  ∀(n:Nat)(rem:List Nat)(b:Array Bool)(D:DSt)(a:Act)(w:World),rem.length=n→b.size=ops.size→rem.Nodup→(∀i,i∈rem↔i<ops.size∧¬aZ b i) →
   (∀i,(m0+1)≤i→i<ops.size→¬aZ b i)→(∀k,aZ b k→∀i∈bL ops k,aZ b i)→Inv cx D [] a.tmps w→T a→Shows tk ops (m0+1) V0 ts ss (aZ b) (erD D)→wpAny P .any ops Q n b a w:=by
 intro n;induction n with
 |zero =>
  intro rem b D a w G hs d m e hc I hd p;have W:rem=[]:=XH.1 G;have:=tail rem b D a w hs d m e (fun i hi=>by
   by_cases q:aZ b i
   ·exact q
   ·have:=(m i).2 ⟨by have:=c.le;omega,q⟩;rw[W]at this;cases this) I hd p
  rw[W]at this;exact this
 |succ n ih =>
  intro rem b D a w G hs d m e hc I hd p;by_cases f:∀i,i<m0→aZ b i
  ·have:=tail rem b D a w hs d m e f I hd p;rw[G]at this;exact this
  ·have h:∃j,j<m0∧¬aZ b j∧∀i,i<j→aZ b i:=by
    have H:∃j,j<m0∧¬aZ b j:=by apply Xh;intro q;exact f fun i hi=>Xh fun J=>q ⟨i,hi,J⟩
    obtain⟨j,K,t⟩:=H;induction j using Nat.strongRecOn with
    |ind j L =>
     by_cases q:∀i,i<j→aZ b i
     ·exact⟨j,K,t,q⟩
     ·have:∃i,i<j∧¬aZ b i:=Xh fun J=>q fun i hi=>Xh fun M=>J ⟨i,hi,M⟩
      obtain⟨i,hi,N⟩:=this;exact L i hi (by omega) N
   obtain⟨v,K,t,h3⟩:=h;show _∧_;refine⟨fun q=>?_,fun j hj=>?_⟩
   ·have:v∈Region.ready .any ops b:=(gZ hs).2 ⟨by have:=c.le;omega,t,fun i hi=>h3 i (c.topo v i hi)⟩;rw[q]at this;cases this
   ·obtain⟨O,R,z⟩:=(gZ hs).1 hj;have l:j<m0+1:=by
     rcases WI j (m0+1)with g|g
     ·exact g
     ·rcases c.seq j g O v K with q|⟨r,q1,q2⟩
      ·exact absurd (z v q) t
      ·exact absurd (wJ c (fun k hk i hi=>hc k hk i hi) r (by have:=c.topo j r q1;omega) (fun i hi=>hc r (z r q1) i hi) v q2) t
    have x:∀k∈anc.getD j [],aZ b k:=wJ c (fun k hk i hi=>hc k hk i hi) j O z;have S:=Mt A hv p l R x;have U:=p.nr A Y (fun i hi=>by obtain⟨F,_,q⟩:=hv i hi;exact KG q);refine I.stepM ok hf X l U S fun D' a' w' e1 e2 e3=>?_
    have V:j∈rem:=(m j).2 ⟨O,R⟩;obtain⟨r,k2,k3⟩:=Bd hs d m V;refine ih (rem.erase j) (b.setIfInBounds j true) D' a' w' (by omega) (by simp[hs]) r k2 (fun i h4 h5 q=>?_) (fun k hk i hi=>?_) e3 (by obtain⟨o,y,q1,rfl⟩:=e2;exact Z o (WC (by simpa using q1)) a y hd) ?_
    ·rw[fA]at q;rcases q with⟨q,_⟩|q
     ·omega
     ·exact e i h4 h5 q
    ·rw[fA]at hk ⊢;rcases hk with⟨rfl,_⟩|hk
     ·exact .inr (z i hi)
     ·exact .inr (hc k hk i hi)
    ·rw[e1];refine(p.set A l R (fun k hk hL i hi _=>wJ c (fun k hk i hi=>hc k hk i hi) k (by have:=c.le;omega) (fun i hi=>hc k hL i hi) i hi)).imp fun i _=>?_
     rw[fA];constructor
     ·rintro(q|q)
      ·exact .inl ⟨q,by omega⟩
      ·exact .inr q
     ·rintro(⟨q,_⟩|q)
      ·exact .inl q
      ·exact .inr q
theorem EM (n k:Nat)(_:k≤n):(∀i,i∈(List.range n).drop k↔k≤i∧i<n)∧((List.range n).drop k).Nodup∧((List.range n).drop k).length=n-k:=by
 refine⟨fun i=>?_,List.nodup_range.sublist (YS _ _),by simp⟩;rw[List.mem_iff_getElem?];constructor
 ·rintro⟨j,a⟩;rw[Xx]at a;have b:k+j<n:=by
   rcases WI (k+j) n with g|g
   ·exact g
   ·rw[WF (by simpa using g)]at a;cases a
  rw[XS b]at a;cases a;omega
 ·rintro⟨c,d⟩;exact⟨i-k,by rw[Xx,XS (by omega)];congr 1;omega⟩
open Classical in
noncomputable def runD2 (tab:Tab)(fns:FuncId→Option Func)(C:Sem1)(tk:Nat→Bool)(ops:Array Oper)(σ:List Nat)(m0:Nat)(anc:List (List Nat))(D:US):Option US :=
 if J3 σ ops.size=true∧(EL tk (du σ ops) m0 anc&&(dw (du σ ops) (m0+1)).all (fun t=>decide (t<D.length))&&(killAll (dw (du σ ops) (m0+1)) D).all (fun s=>(jj tk (du σ ops) (m0+1)).all fun u => !eQ u s))=true then
  (oW tab fns C tk (du σ ops) (m0+1) anc m0 0 (killAll (dw (du σ ops) (m0+1)) D)).bind fun a =>
   (oW tab fns C tk (du σ ops) (m0+1) anc 1 m0 a).bind fun b =>
    match nl tab fns C tk (du σ ops) (ops.size-(m0+1)) ((List.range ops.size).drop (m0+1)) b with
    |some U::r=>if jY r U∧jY (nl tab fns C tk (du σ ops) (ops.size-m0) ((List.range ops.size).drop m0) a) U then some U else none
    |_=>none
 else none
theorem Inv.runD2 {tab:Tab}(ok:bz P tab)(hm:P.follows .mixedOrders=true){fns:FuncId→Option Func}(hf:jk P fns){C:Sem1}(hC:ie P B C cx){anc:List (List Nat)}{T:Act→Prop}(hT:∀o∈ops.toList,∀a y,T a→T (a.put o.dst y))(hQ:∀D' L w',erD D'=U→T L→Inv cx D' [] L.tmps w'→Q .normal L w')(I:Inv cx D [] a.tmps w)(hd:T a)(e:Am.runD2 tab fns C tk ops σ m0 anc (erD D)=some U):(Code.region id ops true).wp P Q a w:=by
 unfold Am.runD2 at e;split at e
 case isFalse=>cases e
 rename_i hc;obtain⟨hp,hB⟩:=hc;have hP:=Tn hp;have hz:=FF hP;have H:∀o∈(du σ ops).toList,∀a y,T a→T (a.put o.dst y):=by intro o ho;unfold du at ho;rw[WU]at ho;obtain⟨o',h1,rfl⟩:=ho;rw[X8]at h1;obtain⟨j,_,h2⟩:=h1;exact hT o' (WC (by simpa using h2))
 rw[W0,W0]at hB;obtain⟨⟨hB,N⟩,J⟩:=hB;refine wp_region_any hm (QP hP ops.size _ (Array.replicate ops.size false) a _ (by simp) (by simp) (fun j=>⟨fun q=>absurd q d9,fun q=>absurd q d9⟩) ?_);rw[←hz]at e ⊢;generalize du σ ops=b at *;clear hP hp hT;have A:=Rb hB;rw[WA]at e;obtain⟨Vx,e1,e⟩:=e;rw[WA]at e;obtain⟨Vm,e2,O⟩:=e;rw[←lO]at e1 J;have I0:=(I.drewn).killAll (dw b (m0+1));generalize Z0:Am.killAll (dw b (m0+1)) D=K at e1 I0 J;have d:∃ts:Nat→Nat,∀j,j<m0+1→(b[j]?).bind (·.dst)=some (ts j):=by refine⟨fun j=>((b[j]?).bind (·.dst)).getD 0,fun j f=>?_⟩;obtain⟨t,ht⟩:=A.dst j f;simp[ht]
 obtain⟨ts,d⟩:=d;have R:∀j,j<m0+1→∃o,b[j]?=some o∧o.dst=some (ts j):=fun j f=>by have:=d j f;rw[WA]at this;exact this
 have S:∀i j,i<m0+1→j<m0+1→ts i=ts j→i=j:=by
  have V:dw b (m0+1)=(List.range (m0+1)).map ts:=by unfold dw;exact s6 fun i hi=>d i (Xm.1 hi)
  have l:=A.nodup;rw[V]at l;intro i j hi f h;have:=(Zo.1 l)
  rcases YH i j with g|g|g
  ·exact absurd h (X5.1 this i j (by simpa using hi) (by simpa using f) g|> fun q=>by simpa using q)
  ·exact g
  ·exact absurd h.symm (X5.1 this j i (by simpa using f) (by simpa using hi) g|> fun q=>by simpa using q)
 have F:∀j,j<m0+1→ts j∈dw b (m0+1):=fun j f=>X8.2 ⟨j,Xm.2 f,d j f⟩
 have hx:Lex tk b (m0+1) anc (erD K) ts:=⟨R,S,fun j f=>by rw[←Z0,lO];refine wV _ ?_ (.inl (F j f));simpa using WS.1 N _ (F j f),fun k hk u hu=>by obtain⟨i,hi,Z1,m⟩:=A.tk1 k hk u hu;rw[d i hi]at m;exact⟨i,hi,Z1,by cases m;rfl⟩,A.tk2,TN A⟩
 have h0:Shows tk b (m0+1) (erD K) ts (fun _=>.any) (fun i=>i<0) (erD K):=⟨rfl,fun j _ q=>by omega,fun j _ q=>by omega,fun u _ _=>rfl⟩
 obtain⟨s1,_,k2,k3⟩:=xf m0 0 hx (by omega) h0 e1;obtain⟨ss,g1,g2,g3⟩:=xf 1 m0 hx (by omega) (k2.imp fun i _=>by rw[Yk]) e2;have kx:Shows tk b (m0+1) (erD K) ts ss (fun i=>i<m0) Vx:=(k2.imp fun i _=>by rw[Yk]).congr fun i _ hL=>g1 i hL
 have hv:∀i,i<m0+1→∃Vi,Shows tk b (m0+1) (erD K) ts ss (fun k=>k<i) Vi∧evM tab fns C tk b (m0+1) anc i Vi=some (ss i):=fun i hi=>by
  by_cases h:i<m0
  ·obtain⟨Vi,q1,G⟩:=k3 i (YM i) (by omega);exact⟨Vi,q1.congr fun k _ hL=>g1 k (by omega),by rw[G,g1 i h]⟩
  ·exact g3 i (by omega) hi
 have W:∀u∈jj tk b (m0+1),∀s∈erD K,eQ u s=false:=fun u hu s hs=>by have:=WS.1 (WS.1 J s hs) u hu;simpa using this
 have n:(∀x∈nl tab fns C tk b (b.size-(m0+1)) ((List.range b.size).drop (m0+1)) Vm,x=some U)∧∀x∈nl tab fns C tk b (b.size-m0) ((List.range b.size).drop m0) Vx,x=some U:=by
  split at O
  case h_2=>cases O
  rename_i U' r hr;split at O
  case isFalse=>cases O
  rename_i M;cases O;refine⟨fun x hx=>?_,vG M.2⟩;rw[hr]at hx;rcases WZ.1 hx with rfl|hx
  ·rfl
  ·exact vG M.1 x hx
 have X:∀j i,i∈bL b j→i<b.size:=fun j i hi=>by
  have:=A.topo j i hi;rcases WI j b.size with g|g
  ·omega
  ·unfold bL at hi;rw[Xz g]at hi;cases hi
 have Z2:=A.le;refine QQ ok hf hC A hx hv W (T:=T) H (fun rem c D' L w' hs l hr Y p I' m hS=>?_) b.size (List.range b.size) _ K a _ (by simp) (by simp) Y1 (fun i=>?_) (fun i h1 h2 q=>?_) (fun k hk=>?_) I0 hd ?_
 ·by_cases M:aZ c m0
  ·have v:∀i,i<m0+1→aZ c i:=fun i hi=>by
    rcases WI i m0 with g|g
    ·exact p i g
    ·have:i=m0:=by omega
     rw[this];exact M
   have hE:erD D'=Vm:=hS.ext2 (g2.imp fun i hi=>⟨fun _=>v i hi,fun _=>hi⟩);obtain⟨d1,Z,d3⟩:=EM b.size (m0+1) Z2;have z:∀i,i∈(List.range b.size).drop (m0+1)↔i<b.size∧¬aZ c i:=fun i=>by
    rw[d1];constructor
    ·exact fun q=>⟨q.2,Y i q.1 q.2⟩
    ·rintro⟨q1,G⟩;rcases WI i (m0+1)with g|g
     ·exact absurd (v i g) G
     ·exact⟨g,q1⟩
   have hl:rem.length=b.size-(m0+1):=by rw[←d3];exact((Yx l Z).2 fun i=>by rw[hr,z]).length_eq
   rw[hl];exact F1 ok hf hC H hQ _ _ c D' L w' d3 hs Z z X I' m (by rw[hE];exact n.1)
  ·have hE:erD D'=Vx:=hS.ext2 (kx.imp fun i hi=>⟨fun q=>p i q,fun q=>by
    rcases WI i m0 with g|g
    ·exact g
    ·have:i=m0:=by omega
     rw[this]at q;exact absurd q M⟩)
   obtain⟨d1,Z,d3⟩:=EM b.size m0 (by omega);have z:∀i,i∈(List.range b.size).drop m0↔i<b.size∧¬aZ c i:=fun i=>by
    rw[d1];constructor
    ·rintro⟨q1,G⟩;refine⟨G,?_⟩;by_cases g:i=m0
     ·rw[g];exact M
     ·exact Y i (by omega) G
    ·rintro⟨q1,G⟩;rcases WI i m0 with g|g
     ·exact absurd (p i g) G
     ·exact⟨g,q1⟩
   have hl:rem.length=b.size-m0:=by rw[←d3];exact((Yx l Z).2 fun i=>by rw[hr,z]).length_eq
   rw[hl];exact F1 ok hf hC H hQ _ _ c D' L w' d3 hs Z z X I' m (by rw[hE];exact n.2)
 ·rw[Xm];constructor
  ·intro q;exact⟨q,d9⟩
  ·exact fun q=>q.1
 ·exact d9 q
 ·exact absurd hk d9
 ·exact⟨rfl,fun j f q=>absurd q d9,fun k hk q=>absurd q d9,fun u _ _=>rfl⟩
def QN (ops:Array Oper)(m:Nat):Bool :=decide (m≤ops.size)&&(List.range ops.size).all (fun j=>(bL ops j).all fun i=>decide (i<j)) && (List.range ops.size).all (fun j=>decide (j<m)||(List.range j).all fun i=>(bL ops j).contains i)
theorem Py (h:m≤l.size)(a:rem.Nodup)(e:∀i,i∈rem↔i<m∧¬aZ l i)(c:j∈rem):
  (rem.erase j).Nodup∧(∀i,i∈rem.erase j↔i<m∧¬aZ (l.setIfInBounds j true) i)∧(rem.erase j).length+1=rem.length:=by
 have f:=(e j).1 c;refine⟨a.erase j,fun i=>?_,?_⟩
 ·rw[a.mem_erase_iff,e,fA];constructor
  ·rintro⟨d,b,g⟩;exact⟨b,fun q=>q.elim (fun q=>d q.1) g⟩
  ·rintro⟨d,b⟩;exact⟨fun q=>b (.inl ⟨q,by omega⟩),d,fun q=>b (.inr q)⟩
 ·have:=YO c;have:=YV c;omega
theorem Om {tab:Tab}(ok:bz P tab){fns:FuncId→Option Func}(hf:jk P fns){C:Sem1}(M:ie P B C cx){T:Act→Prop}{k:Nat}(hk:m+k=ops.size)(N:∀o∈ops.toList,∀a y,T a→T (a.put o.dst y))(e:∀j i,i∈bL ops j→i<j)(s:∀j,m≤j→j<ops.size→∀i,i<j→i∈bL ops j)(O:∀(b:Array Bool) D' t w',b.size=ops.size→(∀i,i<ops.size→(aZ b i↔i<m))→erD D'=U→T t→Inv cx D' [] t.tmps w'→wpAny P .any ops Q k b t w'):
  ∀(n:Nat)(rem:List Nat)(b:Array Bool)(D:DSt)(a:Act)(w:World),rem.length=n→b.size=ops.size→rem.Nodup→(∀i,i∈rem↔i<m∧¬aZ b i)→(∀i,m≤i→¬aZ b i) →
   Inv cx D [] a.tmps w→T a→(∀x∈nl tab fns C tk ops n rem (erD D),x=some U)→wpAny P .any ops Q (n+k) b a w:=by
 intro n;induction n with
 |zero =>
  intro rem b D a w F hs u d f I hd l;have R:rem=[]:=XH.1 F;subst R;rw[Yk];have:=l (some (erD D)) (by simp[nl]);cases this;refine O b D a w hs (fun i hi=>⟨fun q=>?_,fun q=>?_⟩) rfl hd I
  ·rcases WI i m with g|g
   ·exact g
   ·exact absurd q (f i g)
  ·apply Xh;intro h;have:=(d i).2 ⟨q,h⟩;cases this
 |succ n S =>
  intro rem b D a w F hs u d f I hd l;have c:∀j,j∈Region.ready .any ops b↔j∈rem.filter (fun j=>(bL ops j).all fun i => !rem.contains i):=by
   intro j;rw[gZ hs,XV,d,WS];constructor
   ·rintro⟨L,G,A⟩;have H:j<m:=by
     rcases WI j m with g|g
     ·exact g
     ·exfalso;cases rem with
      |nil=>cases F
      |cons i r =>have hi:=(d i).1 (by simp);exact hi.2 (A i (s j g L i (by omega)))
    refine⟨⟨H,G⟩,fun i hi=>?_⟩;have:i∉rem:=fun q=>((d i).1 q).2 (A i hi)
    simpa using this
   ·rintro⟨⟨L,G⟩,A⟩;refine⟨by omega,G,fun i hi=>?_⟩;have:=A i hi;have V:i∉rem:=by simpa using this
    apply Xh;intro q;exact V ((d i).2 ⟨by have:=e j i hi;omega,q⟩)
  rw[show n+1+k=(n+k)+1 by omega];show _∧_;unfold nl at l;cases hc:rem.filter (fun j=>(bL ops j).all fun i => !rem.contains i)with
  |nil=>rw[hc]at l;have:=l none (by simp);cases this
  |cons W js =>
   refine⟨fun q=>?_,fun j v=>?_⟩
   ·have:W∈Region.ready .any ops b:=by rw[c,hc];simp
    rw[q]at this;cases this
   ·have X:=v;rw[c]at v;have z:=(XV.1 v).1;rw[hc]at l v;have p:∀x∈(match Am.stepE tab fns C tk ops j (erD D)with|some D'=>nl tab fns C tk ops n (rem.erase j) D'|none=>[none]),x=some U:=fun x J=>l x (WP.2 ⟨j,v,J⟩)
    split at p
    ·rename_i D1 K;refine I.stepE ok hf M K fun D' t w' Y Z e3=>?_
     obtain⟨k1,k2,k3⟩:=Py (by omega) u d z;refine S (rem.erase j) (b.setIfInBounds j true) D' t w' (by omega) (by simp[hs]) k1 k2 (fun i hi q=>?_) e3 (by obtain⟨o,y,q1,rfl⟩:=Z;exact N o (WC (by simpa using q1)) a y hd) (by rw[Y];exact p);rw[fA]at q;rcases q with⟨q,_⟩|q
     ·have:=(d j).1 z;omega
     ·exact f i hi q
    ·have:=p none (by simp);cases this
open Classical in
noncomputable def runD3 (tab:Tab)(fns:FuncId→Option Func)(C:Sem1)(tk:Nat→Bool)(ops:Array Oper)(m:Nat)(D:US):Option US :=
 if QN ops m=true then
  match nl tab fns C tk ops m (List.range m) D with
  |some U::r=>if jY r U then runOps tab fns C tk ops (ops.toList.drop m) m U else none
  |_=>none
 else none
theorem Inv.runD3 {tab:Tab}(ok:bz P tab)(u:P.follows .mixedOrders=true){fns:FuncId→Option Func}(hf:jk P fns){C:Sem1}(s:ie P B C cx){T:Act→Prop}(t:∀o∈ops.toList,∀a y,T a→T (a.put o.dst y))(v:∀D' f w',erD D'=U→T f→Inv cx D' [] f.tmps w'→Q .normal f w')(I:Inv cx D [] a.tmps w)(hd:T a)(e:Am.runD3 tab fns C tk ops m (erD D)=some U):(Code.region id ops true).wp P Q a w:=by
 unfold Am.runD3 at e;split at e
 case isFalse=>cases e
 rename_i h;split at e
 case h_2=>cases e
 rename_i V r z;split at e
 case isFalse=>cases e
 rename_i A;unfold QN at h;simp only[W0,Xv,WS,Xm,YN,XG]at h;obtain⟨⟨F,l⟩,n⟩:=h;have b:∀j i,i∈bL ops j→i<j:=fun j i hi=>by
  rcases WI j ops.size with g|g
  ·exact l j g i hi
  ·unfold bL at hi;rw[Xz g]at hi;cases hi
 have d:∀j,m≤j→j<ops.size→∀i,i<j→i∈bL ops j:=fun j q1 p i hi=>by
  rcases n j p with q|q
  ·omega
  ·exact q i hi
 refine wp_region_any u ?_;have hz:m+(ops.size-m)=ops.size:=by omega
 have:=Om (Q:=Q) (T:=T) ok hf s hz t b d (tk:=tk) (U:=V) (fun c D' f w' hs G q1 p H=>by
  have J:(ops.toList.drop m).length=ops.size-m:=by simp
  rw[←J];refine DE b (ops.toList.drop m) m c f w' hs (fun i=>by rw[Xx];simp) G (fun k l n i hi=>.inl (d k l n i hi)) ?_;exact Inv.runOps (tk:=tk) ok hf s v _ m (fun o K=>t o (XM K)) H p (by rw[q1];exact e)) m (List.range m) (Array.replicate ops.size false) D a _ (by simp) (by simp) Y1
  (fun i=>by rw[Xm];exact⟨fun q=>⟨q,d9⟩,fun q=>q.1⟩) (fun i _=>d9) I.drewn hd (fun x hx=>by
   rw[z]at hx;rcases WZ.1 hx with rfl|hx
   ·rfl
   ·exact vG A x hx)
 rwa [hz]at this
section
variable  {δ β : Type}
def forgetOne (l:List Nat)(D:St δ β)(t:Nat):St δ β :=
 if l.contains t then D else match D[t]? with|some .any=>D|some _=>bj D (some t) .any|none=>D
def forget (l:List Nat)(D:St δ β):St δ β:=(List.range D.length).foldl (forgetOne l) D
end
theorem Kx (l:List Nat)(D:DSt)(t:Nat):erD (forgetOne l D t)=forgetOne l (erD D) t:=by
 unfold forgetOne;rw[cl];split
 ·rfl
 ·cases D[t]? with
  |none=>rfl
  |some s=>cases s<;>first|rfl|exact cE D (some t) .any
theorem Kw (l:List Nat):∀(ts:List Nat)(D:DSt),erD (ts.foldl (forgetOne l) D)=ts.foldl (forgetOne l) (erD D)
 |[],D=>rfl
 |t::ts,D=>by simp only[X3];rw[Kw l ts,Kx]
theorem sP (l:List Nat)(D:DSt):erD (forget l D)=forget l (erD D):=by unfold forget;rw[Kw,fO]
theorem Inv.forgetOne (I:Inv cx D [] tm w)(l:List Nat)(t:Nat):Inv cx (forgetOne l D t) [] tm w:=by
 unfold Am.forgetOne;split
 ·exact I
 ·split
  ·exact I
  ·rename_i s h;refine I.lose ?_;rcases WI t D.length with g|g
   ·exact g
   ·rw[WF g]at h;cases h
  ·exact I
theorem Inv.forgetL {cx:Cx}{tm:Array Value}{w:World}(l:List Nat):∀(ts:List Nat){D:DSt},Inv cx D [] tm w→Inv cx (ts.foldl (Am.forgetOne l) D) [] tm w
 |[],D,I=>I
 |t::ts,D,I=>by simp only[X3];exact Inv.forgetL l ts (I.forgetOne l t)
theorem Inv.forget (I:Inv cx D [] tm w)(l:List Nat):Inv cx (forget l D) [] tm w:=Inv.forgetL l _ I
structure kK where
 take:Nat→Nat→Bool:=fun _ _=>false
 keep:Nat→Option (List Nat):=fun _=>none
 head:Nat→Option (List Nat):=fun _=>none
 tail:Nat→Exit→Option (List Nat):=fun _ _=>none
 draw:Nat→Option (Nat×List (List Nat)):=fun _=>none
 late:Nat→Option (List Nat):=fun _=>none
def Tc {α:Type}(l:List (List Nat×α)):List (Nat×α):=l.flatMap fun p=>p.1.map fun k=>(k,p.2)
def hdL (l:List (Nat×List Nat))(i:Nat):Option (List Nat):=l.lookup i
def exN:Exit→Option Nat| .exit k=>some (k+1)| .ret=>some 0|_=>none
def tlL (l:List (Nat×List (Nat×List Nat)))(i:Nat)(e:Exit):Option (List Nat):=(exN e).bind fun k=>(l.lookup i).bind fun r=>r.lookup k
def drL (l:List (Nat×Nat×List (List Nat)))(i:Nat):Option (Nat×List (List Nat)):=l.lookup i
def tkL (l:List (Nat×Nat))(r i:Nat):Bool:=l.any fun p=>p.1==r&&p.2==i
noncomputable def runDL (tab:Tab)(fns:FuncId→Option Func)(C:Sem1)(tk:Nat→Bool)(late:Option (List Nat))(ops:Array Oper)(m:Nat)(anc:List (List Nat))(D:US):Option US :=
 match late with
 |some []=>runD3 tab fns C tk ops m D
 |some σ=>runD2 tab fns C tk ops σ m anc D
 |none=>runD tab fns C tk ops m anc D
theorem Inv.runDL {tab:Tab}(ok:bz P tab)(b:P.follows .mixedOrders=true){fns:FuncId→Option Func}(hf:jk P fns){C:Sem1}(c:ie P B C cx){late:Option (List Nat)}{anc:List (List Nat)}{T:Act→Prop}(d:∀o∈ops.toList,∀a y,T a→T (a.put o.dst y))(f:∀D' g w',erD D'=U→T g→Inv cx D' [] g.tmps w'→Q .normal g w')(I:Inv cx D [] a.tmps w)(hd:T a)(e:Am.runDL tab fns C tk late ops m anc (erD D)=some U):(Code.region id ops true).wp P Q a w:=by
 unfold Am.runDL at e;split at e
 ·exact I.runD3 ok b hf c d f hd e
 ·exact I.runD2 ok b hf c d f hd e
 ·exact I.runD ok b hf c d f hd e
def UR (g:US→Option R)(K:Exit→US→Option R)(e:Exit)(D:US):Option R :=
 match e with| .normal=>g D|e=>K e D
def ui {R:Type}(body:US→(Exit→US→Option R)→Option R):Nat→US→(Exit→US→Option R)→Option R| 0,_,_=>none|m+1,D,K=>body D (UR (fun D'=>ui body m D' K) K)
def Bf:Code→Option Nat
 | .region id _ _=>some id
 | .seq x y=>match Bf x with|some i=>some i|none=>Bf y
 | .block _ c=>Bf c
 |_=>none
def atHead {δ β:Type}(h:kK)(c:Code)(D:St δ β):St δ β :=
 match(Bf c).bind h.head with|some l=>forget l D|none=>D
theorem HZ (h:kK)(c:Code)(D:DSt):erD (atHead h c D)=atHead h c (erD D):=by
 unfold atHead;split
 ·exact sP _ D
 ·rfl
theorem Inv.atHead (I:Inv cx D [] tm w)(h:kK)(c:Code):Inv cx (atHead h c D) [] tm w:=by
 unfold Am.atHead;split
 ·exact I.forget _
 ·exact I
def atTail {δ β:Type}(h:kK)(c:Code)(e:Exit)(D:St δ β):St δ β :=
 match(Bf c).bind (h.tail · e)with|some l=>forget l D|none=>D
theorem Rd (h:kK)(c:Code)(e:Exit)(D:DSt):erD (atTail h c e D)=atTail h c e (erD D):=by
 unfold atTail;split
 ·exact sP _ D
 ·rfl
theorem Inv.atTail (I:Inv cx D [] tm w)(h:kK)(c:Code)(e:Exit):Inv cx (atTail h c e D) [] tm w:=by
 unfold Am.atTail;split
 ·exact I.forget _
 ·exact I
def canon {δ β:Type}(h:kK)(c:Code)(e:Exit)(D:St δ β):St δ β :=
 match e with| .normal=>atHead h c D|e=>atTail h c e D
theorem SV (h:kK)(c:Code)(e:Exit)(D:DSt):erD (canon h c e D)=canon h c e (erD D):=by
 unfold canon;split
 ·exact HZ h c D
 ·exact Rd h c _ D
theorem Inv.canon (I:Inv cx D [] tm w)(h:kK)(c:Code)(e:Exit):Inv cx (canon h c e D) [] tm w:=by
 unfold Am.canon;split
 ·exact I.atHead h c
 ·exact I.atTail h c _
def ym (ops:List Oper):Option (List Oper×TypeId×Operand×Nat×Bool):=
 match ops.getLast? with
 |some ⟨some d,.binOp op t x (.const (.slice none 0 0)) _,_,_,_,none⟩=>(match op with| .eql=>some (ops.dropLast,t,x,d,false)| .neq=>some (ops.dropLast,t,x,d,true)|_=>none)
 |_=>none
def vd {δ β:Type}(M:Mk δ β)(tab:Tab)(D:St δ β)(t:TypeId)(x:Operand):Option Nat :=
 match tab.ti t with
 |some ⟨_,_,_,.slice _⟩=>
  match opd M.nil D x with
  |some (.one (.s _ _ _ rows))=>some rows.length
  |_=>none
 |_=>none
open Classical in
noncomputable def xR (D:US)(d:Nat)(a:Bool)(n:Nat)(K:US→Option R):Option R :=
 if n=0 then
  match K (putA D d (.one (.v (.bool (!a)))))with
  |some r=>if K (putA D d (.one (.v (.bool a))))=some r then some r else none
  |none=>none
 else K (putA D d (.one (.v (.bool a))))
noncomputable def gd (tab:Tab)(fns:FuncId→Option Func)(C:Sem1)(h:kK)(n:Nat){R:Type}:Code→US→(Exit→US→Option R)→Option R
 | .skip,D,K=>K .normal D
 | .region id ops draw,D,K =>
  match draw with
  |true=>(match h.draw id with
   |some (m,anc)=>runDL tab fns C (h.take id) (h.late id) ops m anc (match h.keep id with|some l=>forget l D|none=>D)
   |none=>none).bind fun D'=>K .normal D'
  |false =>
   match ym ops.toList with
   |some (init,t,x,d,b)=>(runOps tab fns C (h.take id) ops init 0 (match h.keep id with|some l=>forget l D|none=>D)).bind fun D' =>
    match vd mkU tab D' t x with
    |some n=>if d<D'.length then xR D' d b n (K .normal)else none
    |none=>none
   |none=>(runOps tab fns C (h.take id) ops ops.toList 0 (match h.keep id with|some l=>forget l D|none=>D)).bind fun D'=>K .normal D'
 | .seq x y,D,K=>gd tab fns C h n x D fun e D'=>match e with| .normal=>gd tab fns C h n y D' K|e=>K e D'
 | .cond c x y,D,K=>match boolOf mkU D c with|some true=>gd tab fns C h n x D K|some false=>gd tab fns C h n y D K|none=>none
 | .block id c,D,K=>gd tab fns C h n c D fun e D'=>match e with| .exit a=>if a=id then K .normal D' else K (.exit a) D'|e=>K e D'
 | .exit id,D,K=>K (.exit id) D
 | .ret,D,K=>K .ret D
 | .loop c,D,K=>ui (fun D K=>gd tab fns C h n c D fun e D'=>K e (canon h c e D')) n (atHead h c D) K
 |_,_,_=>none
theorem Rk (tab:Tab)(D:DSt)(t:TypeId)(x:Operand):vd mkU tab (erD D) t x=vd mkD tab D t x:=by
 unfold vd;rw[cN];split
 ·cases opd mkD.nil D x with
  |none=>rfl
  |some s =>
   cases s with
   |one u=>cases u<;>simp[Sl.er,T.er,HX]
   |_=>rfl
 ·rfl
theorem Ly {ops init:List Oper}{x:Operand}{d:Nat}{c:Bool}(h:ym ops=some (init,t,x,d,c)):
  ∃o:Oper,ops=init++[o]∧o.dst=some d∧o.guard=none∧∃ty,o.op = .binOp (if c then .neq else .eql) t x (.const (.slice none 0 0)) ty:=by
 unfold ym at h;split at h
 case h_2=>cases h
 rename_i op t' g ty e p q f;have b:=List.getLast?_eq_some_iff.1 f;obtain⟨ys,a⟩:=b;split at h
 ·cases h;exact⟨⟨some d,.binOp .eql t x (.const (.slice none 0 0)) ty,e,p,q,none⟩,by rw[a];simp,rfl,rfl,ty,rfl⟩
 ·cases h;exact⟨⟨some d,.binOp .neq t x (.const (.slice none 0 0)) ty,e,p,q,none⟩,by rw[a];simp,rfl,rfl,ty,rfl⟩
 ·cases h
theorem Ua {e:TypeId}(c:P.underlying t=some (.slice e))(a:Bool)(ad:Option Addr)(n cap:Nat)(w:World):
  (binOp (if a then .neq else .eql) t (.slice ad n cap) (.slice none 0 0)).run P w = .ok (.bool (if ad.isNone then !a else a)) w:=by
 have f:∀d,(Op.equalIn (d+1) t (.slice ad n cap) (.slice none 0 0)).run P w = .ok ad.isNone w:=fun d=>by unfold Op.equalIn;cases ad<;>simp[run_underlying c]
 have b:(Op.equal t (.slice ad n cap) (.slice none 0 0)).run P w = .ok ad.isNone w:=f 9999;cases a with
 |false =>show(do pure (.bool (←Op.equal t (.slice ad n cap) (.slice none 0 0))):Sem Value).run P w=_;simp[b];cases ad<;>rfl
 |true =>show(do pure (.bool (!(←Op.equal t (.slice ad n cap) (.slice none 0 0)))):Sem Value).run P w=_;simp[b];cases ad<;>rfl
theorem Inv.nilStep {tab:Tab}(ok:bz P tab){r:R}(I:Inv cx D [] a.tmps w){x:Operand}{n d:Nat}{c:Bool}{K:US→Option R}{o:Oper}(f:vd mkU tab (erD D) t x=some n)(hd:d<D.length)(g:∃ty,o.op = .binOp (if c then .neq else .eql) t x (.const (.slice none 0 0)) ty)(h:o.dst=some d)(C:o.guard=none)(e:xR (erD D) d c n K=some r)(F:∀A y,K (erD A)=some r→Inv cx A [] (a.put o.dst y).tmps w→Q .normal (a.put o.dst y) w):wpList P ops Q [o] a w:=by
 rw[Rk]at f;unfold vd at f;split at f
 case h_2=>cases f
 rename_i sz G O S q;have H:=gM (Tab.ok ok q) rfl;split at f
 case h_2=>cases f
 rename_i k b z rows J;cases f;have B:=I.opd J;have L:a.eval x = .slice b.addr rows.length b.cap:=B.val;obtain⟨ty,g⟩:=g;have i:(execOp a.eval o).run P w = .ok (.value (.bool (if b.addr.isNone then !c else c))) w:=by
  unfold execOp;rw[g];have j:=Ua H c b.addr rows.length b.cap w;have l:a.eval (.const (.slice none 0 0))= .slice none 0 0:=rfl;simp only[L,l];have M:(eqGuard (if c=true then BinOp.neq else BinOp.eql) t x (.const (.slice none 0 0)) (.slice b.addr rows.length b.cap) (.slice none 0 0)).run P w = .ok () w:=by cases c<;>rfl
  simp[j,M]
 have s:∀ β:Bool,K (Am.putA (erD D) d (.one (.v (.bool β))))=some r→(if b.addr.isNone then !c else c)=β→Q .normal (a.put o.dst (.bool (if b.addr.isNone then !c else c))) w:=fun β j l=>by
  refine F (Am.putA D d (.one (.v (.bool β)))) _ ?_ ?_
  ·rw[Cw];exact j
  ·rw[h,l];exact I.putA hd (Tells.one_v (.bool β) rfl)
 unfold wpList;rw[Wz (by simp[Region.wanted,C])];refine .inl ?_;unfold Oper.wp;rw[i];show wpList P ops Q [] _ w;unfold wpList;unfold xR at e;split at e
 ·split at e
  case h_2=>cases e
  rename_i U j;split at e
  case isFalse=>cases e
  rename_i l;cases e;cases hb:b.addr.isNone with
  |true=>have:=s (!c) j (by simp[hb]);rwa [hb]at this
  |false=>have:=s c l (by simp[hb]);rwa [hb]at this
 ·rename_i u;have hb:b.addr.isNone=false:=by
   cases m:b.addr with
   |some _=>rfl
   |none =>
    exfalso;have N:=B.mem.1 (.s k b z rows) (by simp[an]);have p:b.nil=true:=by
     unfold Dec.addr at m;split at m
     ·cases m
     ·cases v:b.nil with
      |true=>rfl
      |false=>rw[v]at m;cases m
    exact u (by rw[Holds.nilrows N p];rfl)
  exact s c e (by simp[hb])
def uk:Code→List Oper| .region _ ops _=>ops.toList| .seq x y=>uk x++uk y| .cond _ x y=>uk x++uk y| .block _ c=>uk c| .loop c=>uk c|_=>[]
def Ta (a:List Nat)(c:Code):Bool:=a.isEmpty ||(uk c).all fun o=>match o.dst with|some t => !a.contains t|none=>true
theorem l3 {P:Program}{tab:Tab}(ok:bz P tab){fns:FuncId→Option Func}(hf:jk P fns){B:Base}{C:Sem1}{cx:Cx}(v:ie P B C cx){h:kK}{n:Nat}{R:Type}{T:Act→Prop}{r:R}:
  ∀(c:Code){K:Exit→US→Option R}{Q:Exit→Act→World→Prop},(∀o∈uk c,∀a y,T a→T (a.put o.dst y))→(∀e D' k w',K e (erD D')=some r→T k→Inv cx D' [] k.tmps w'→Q e k w') →
   ∀{D:DSt}{a:Act}{w:World},Inv cx D [] a.tmps w→T a→gd tab fns C h n c (erD D) K=some r→c.wp P Q a w
 | .skip,K,Q,f,b,D,a,w,I,hd,e=>wp_skip (b .normal D a w e hd I)
 | .region id ops draw,K,Q,f,b,D,a,w,I,hd,e=>by
  simp only[gd]at e;cases draw with
  |true =>
   simp only at e;rw[WA]at e;obtain⟨U,g,s⟩:=e;split at g
   case h_2=>cases g
   rename_i m anc S;have i:∀D1,Inv cx D1 [] a.tmps w→Am.runDL tab fns C (h.take id) (h.late id) ops m anc (erD D1)=some U→(Code.region id ops true).wp P Q a w:=fun D1 G g =>Inv.runDL (tk:=h.take id) (late:=h.late id) ok ok.mixed hf v f (fun D' k w' j p q=>b .normal D' k w' (by rw[j];exact s) p q) G hd g
   split at g
   ·rename_i l M;rw[←sP]at g;exact i _ (I.forget l) g
   ·exact i _ I g
  |false =>
   simp only at e;refine wp_region_list ?_;split at e
   ·rename_i init t x d ng M;rw[WA]at e;obtain⟨U,g,s⟩:=e;obtain⟨o,u,H,N,J⟩:=Ly M;have f:∀A∈init++[o],∀a y,T a→T (a.put A.dst y):=fun A z=>f A (by show A∈ops.toList;rw[u];exact z)
    rw[u];have i:∀D1,Inv cx D1 [] a.tmps w→Am.runOps tab fns C (h.take id) ops init 0 (erD D1)=some U→wpList P ops Q (init++[o]) a w:=fun D1 G g =>
     Inv.runOps2 (tk:=h.take id) ok hf v (fun D' k w' j p q=>by
      subst j;split at s
      case h_2=>cases s
      rename_i n V;rw[fO]at s;split at s
      case isFalse=>cases s
      rename_i O;exact q.nilStep ok V O J H N s (fun W y X Y=>b .normal W _ _ X (f o (by simp) k y p) Y)) init 0 (fun A z=>f A (by simp[z])) G hd g
    split at g
    ·rename_i l M;rw[←sP]at g;exact i _ (I.forget l) g
    ·exact i _ I g
   rw[WA]at e;obtain⟨U,g,s⟩:=e;have i:∀D1,Inv cx D1 [] a.tmps w→Am.runOps tab fns C (h.take id) ops ops.toList 0 (erD D1)=some U→wpList P ops Q ops.toList a w:=fun D1 G g =>Inv.runOps (tk:=h.take id) ok hf v (fun D' k w' j p q=>b .normal D' k w' (by rw[j];exact s) p q) ops.toList 0 f G hd g
   split at g
   ·rename_i l M;rw[←sP]at g;exact i _ (I.forget l) g
   ·exact i _ I g
 | .seq x y,K,Q,f,b,D,a,w,I,hd,e=>by
  simp only[gd]at e;refine wp_seq (l3 ok hf v x (fun o u=>f o (W5.2 (.inl u))) (fun F D' k w' j p q=>?_) I hd e);cases F with
  |normal=>exact l3 ok hf v y (fun o u=>f o (W5.2 (.inr u))) b q p j
  |_=>exact b _ D' k w' j p q
 | .cond c x y,K,Q,f,b,D,a,w,I,hd,e=>by
  simp only[gd,Re]at e;split at e
  ·rename_i hb;exact wp_cond (I.boolOf hb) (l3 ok hf v x (fun o u=>f o (W5.2 (.inl u))) b I hd e)
  ·rename_i hb;exact wp_cond (I.boolOf hb) (l3 ok hf v y (fun o u=>f o (W5.2 (.inr u))) b I hd e)
  ·cases e
 | .block id c,K,Q,f,b,D,a,w,I,hd,e=>by
  simp only[gd]at e;refine wp_block (l3 ok hf v c f (fun F D' k w' j p q=>?_) I hd e);cases F with
  |exit Z =>
   simp only[Exit.inBlock];simp only at j;split
   ·rename_i hid;rw[Wz hid]at j;exact b .normal D' k w' j p q
   ·rename_i hid;rw[WM hid]at j;exact b _ D' k w' j p q
  |_=>exact b _ D' k w' j p q
 | .exit id,K,Q,f,b,D,a,w,I,hd,e=>wp_exit (b (.exit id) D a w e hd I)
 | .ret,K,Q,f,b,D,a,w,I,hd,e=>wp_ret (b .ret D a w e hd I)
 | .loop c,K,Q,f,b,D,a,w,I,hd,e=>by
  simp only[gd]at e;refine wp_loop_rounds n ?_;have i:∀(m:Nat){D:DSt}{a:Act}{w:World},Inv cx D [] a.tmps w→T a→ui (fun D K=>gd tab fns C h n c D fun e D'=>K e (Am.canon h c e D')) m (erD D) K=some r→Code.rounds P c Q m a w:=by
   intro m;induction m with
   |zero=>intro D a w I hd e;cases e
   |succ m ih =>
    intro D a w I hd e;simp only[ui]at e;rw[rounds_succ];refine l3 ok hf v c f (fun F D' k w' j p q=>?_) I hd e;rw[←SV]at j;have L:=q.canon h c F;cases F with
    |normal=>exact ih L p j
    |_=>exact b _ _ k w' j p L
  rw[←HZ]at e;exact i n (I.atHead h c) hd e
 | .rangeFunc ..,K,Q,f,b,D,a,w,I,hd,e=>by cases e
 | .scope _,K,Q,f,b,D,a,w,I,hd,e=>by cases e
 | .label _,K,Q,f,b,D,a,w,I,hd,e=>by cases e
 | .goto _,K,Q,f,b,D,a,w,I,hd,e=>by cases e
 | .refuse _,K,Q,f,b,D,a,w,I,hd,e=>by cases e
section
variable  {δ β : Type}
def resOne (M:Mk δ β)(tab:Tab)(D:St δ β):ResultVar→Option (Bool×List (T δ)×Nat)
 | .tmp t =>
  match D[t]? with
  |some (.one u)=>some (false,[u],t)
  |some (.agg ts)=>some (true,ts,t)
  |some (.al h c st lo len)=>
   if lo=0∨0<len then
    match aw D h c with
    |some u=>if u.isOwn then match getN u st with|some (.s .own d z rows)=>some (false,[.s .own (M.win d lo z) z ((rows.drop lo).take len)],h)|_=>none else none
    |none=>none
   else none
  |_=>none
 | .cell a t =>
  match D[a]?,tab.ti t with
  |some (.box _ ts),some ti=>if ts.length=ti.size∧ti.sh ≠ .other∧(ti.sh.agg=false→ts.length=1)then some (ti.sh.agg,ts,a)else none
  |_,_=>none
def resL (M:Mk δ β)(tab:Tab)(D:St δ β):List ResultVar→Option (List (Bool×List (T δ)×Nat))|[]=>some []|r::rs=>(resOne M tab D r).bind fun x=>(resL M tab D rs).map fun xs=>x::xs
def ownAny (r:Bool×List (T δ)×Nat):Bool:=r.2.1.any T.isOwn
end
abbrev erT (r:Bool×List DT×Nat):Bool×List (T Unit)×Nat:=(r.1,erL r.2.1,r.2.2)
theorem Rq (tab:Tab)(D:DSt)(r:ResultVar):resOne mkU tab (erD D) r=(resOne mkD tab D r).map erT:=by
 cases r with
 |tmp t =>
  simp only[resOne,cl];cases D[t]? with
  |none=>rfl
  |some s =>
   cases s with
   |al h c st lo len =>
    simp only[WB,Sl.er];split
    ·rw[lG];cases aw D h c with
     |none=>rfl
     |some u =>
      simp only[WB,dz];split
      ·rw[xM];cases getN u st with
       |none=>rfl
       |some n =>
        cases n with
        |s k d z rows =>
         cases k with
         |own=>simp only[WB,aH,erT];rw[←KF];rfl
         |_=>simp[aH]
        |_=>rfl
      ·rfl
    ·rfl
   |_=>rfl
 |cell a t =>
  simp only[resOne,cl];cases D[a]? with
  |none=>rfl
  |some s =>
   cases s with
   |box b ts =>
    cases tab.ti t with
    |none=>rfl
    |some ti=>simp only[WB,Sl.er,W6];split<;>rfl
   |_=>rfl
theorem OC (tab:Tab)(D:DSt):∀rs,resL mkU tab (erD D) rs=(resL mkD tab D rs).map (List.map erT)
 |[]=>rfl
 |r::rs=>by
  simp only[resL,Rq,OC tab D rs];cases resOne mkD tab D r with
  |none=>rfl
  |some x =>simp only[WB,Wy];cases resL mkD tab D rs<;>rfl
theorem TS (f:DT→Bool)(g:T Unit→Bool)(h:∀t,g t.er=f t)(ts:List DT):(erL ts).any g=ts.any f:=by simp only[erL,Y8];congr 1;funext t;exact h t
def ce {δ β:Type}:Nat→List (Sl δ β)→List (Nat×HK)
 |_,[]=>[]
 |k,a::as=>match de a with|some q=>(k,q)::ce (k+1) as|none=>ce (k+1) as
section
variable  {δ β : Type}
def yr (D:St δ β)(p:Nat×HK):Option (Bool×List (T δ)):=
 match p.2,D[p.1]? with
 | .box,some (.box _ ts)=>some (true,ts)
 | .one,some (.one u)=>some (false,[u])
 | .one,some .any=>some (false,[.any])
 | .agg,some (.agg ts)=>some (true,ts)
 |_,_=>none
def pf (D:St δ β):List (Nat×HK)→Option (List (Bool×List (T δ)))|[]=>some []|p::a=>(yr D p).bind fun x=>(pf D a).map fun xs=>x::xs
def vf (M:Mk δ β)(D:St δ β):List ResultVar→Option ((Bool×List (T δ))×Nat)
 |[.tmp t]=>(mn D (.tmp t)).bind fun h=>match D[h]? with|some (.box b ts)=>if ts.all T.fine=true∧0<ts.length then some ((false,[.s .own (M.ptr b) ts.length [ts],.any]),h)else none|_=>none
 |_=>none
def yX (M:Mk δ β)(tab:Tab)(D:St δ β)(hs:List (Nat×HK))(rs:List ResultVar):Option (List (Bool×List (T δ))):=
 match vf M D rs with
 |some (r,t)=>(pf D hs).bind fun os=>if(os.all fun r=>r.2.all T.fine)=true∧(hs.map (·.1)++[t]).Nodup then some (os++[r])else none
 |none=>(pf D hs).bind fun os=>(resL M tab D rs).bind fun l =>if(os.all fun r=>r.2.all T.fine)=true∧(l.all fun r=>r.2.1.all T.fine)=true∧(hs.map (·.1)++(l.filter ownAny).map (·.2.2)).Nodup then some (os++l.map fun r=>(r.1,r.2.1))else none
end
theorem TV (s:DSl):de s.er=de s:=by
 cases s with
 |one u=>simp only[Sl.er,de,dz]
 |agg ts =>simp only[Sl.er,de];rw[show(List.map T.er ts).any T.isOwn=ts.any T.isOwn by rw[Y8];congr 1;funext t;exact dz t]
 |_=>rfl
theorem ER:∀(k:Nat)(ad:List DSl),ce k (ad.map Sl.er)=ce k ad
 |_,[]=>rfl
 |k,a::as=>by simp only[WT,ce,TV,ER (k+1) as]
theorem Rn (D:DSt)(p:Nat×HK):yr (erD D) p=(yr D p).map fun r=>(r.1,erL r.2):=by
 obtain⟨i,k⟩:=p;simp only[yr,cl];cases D[i]? with
 |none=>cases k<;>rfl
 |some s=>cases s<;>cases k<;>rfl
theorem KC (D:DSt):∀a,pf (erD D) a=(pf D a).map erR
 |[]=>rfl
 |p::a=>by
  simp only[pf,Rn,KC D a];cases yr D p with
  |none=>rfl
  |some x =>simp only[WB,Wy];cases pf D a<;>rfl
def A5 {δ β:Type}(M:Mk δ β)(tab:Tab)(D:St δ β)(hs:List (Nat×HK))(rs:List ResultVar):Option (List (Bool×List (T δ))):=
 if(hs.all fun p=>match p.2 with| .one=>true|_=>false)=true then(yX M tab D [] rs).map fun r=>hs.map (fun _=>(false,[.any]))++r else none
theorem Rp (D:DSt)(rs:List ResultVar):vf mkU (erD D) rs=(vf mkD D rs).map fun p=>((p.1.1,erL p.1.2),p.2):=by
 unfold vf;split
 ·rename_i t;rw[y4];cases mn D (.tmp t)with
  |none=>rfl
  |some h =>
  simp only[Wy];rw[cl];cases D[h]? with
  |none=>rfl
  |some s =>
   cases s with
   |box b ts =>
    simp only[WB,Sl.er];rw[show(List.map T.er ts).all T.fine=ts.all T.fine from jP T.fine T.fine ry ts,W6];split
    ·simp only[WB,erL,WT,Xc,aH];rfl
    ·rfl
   |_=>rfl
 ·rfl
theorem Oz (tab:Tab)(D:DSt)(hs:List (Nat×HK))(rs:List ResultVar):yX mkU tab (erD D) hs rs=(yX mkD tab D hs rs).map erR:=by
 unfold yX;rw[KC,OC,Rp];have a:∀os:eo,((erR os).all fun r=>r.2.all T.fine)=(os.all fun r=>r.2.all T.fine):=by intro os;unfold erR;rw[XI];congr 1;funext r;exact jP T.fine T.fine ry r.2
 cases b:vf mkD D rs with
 |some p =>
  obtain⟨r,t⟩:=p;simp only[WB];cases pf D hs with
  |none=>rfl
  |some os =>
   simp only[WB,Wy,a];split
   ·simp only[WB,yZ];rfl
   ·rfl
 |none =>
 simp only[Zv];cases pf D hs with
 |none=>rfl
 |some os =>
  simp only[WB,Wy];cases resL mkD tab D rs with
  |none=>rfl
  |some l =>
   simp only[WB,Wy];have a:((erR os).all fun r=>r.2.all T.fine)=(os.all fun r=>r.2.all T.fine):=by unfold erR;rw[XI];congr 1;funext r;exact jP T.fine T.fine ry r.2
   have c:((l.map erT).all fun r=>r.2.1.all T.fine)=(l.all fun r=>r.2.1.all T.fine):=by rw[XI];congr 1;funext r;exact jP T.fine T.fine ry r.2.1
   have d:((l.map erT).filter ownAny).map (·.2.2)=(l.filter ownAny).map (·.2.2):=by
    rw[List.filter_map,Xk];have:(ownAny ∘ erT:Bool×List DT×Nat→Bool)=ownAny:=by funext r;exact TS T.isOwn T.isOwn dz r.2.1
    rw[this];rfl
   rw[a,c,d];split
   ·simp only[WB,yZ];congr 2;unfold erR;rw[Xk,Xk];rfl
   ·rfl
theorem TU (tab:Tab)(D:DSt)(hs:List (Nat×HK))(rs:List ResultVar):A5 mkU tab (erD D) hs rs=(A5 mkD tab D hs rs).map erR:=by
 unfold A5;split
 ·rw[Oz,XD,XD];congr 1;funext r;simp only[Function.comp,yZ];congr 1;unfold erR;rw[Xk];rfl
 ·rfl
structure O0 (P:Program)(D:DSt)(tm:Array Value)(w:World)(r:ResultVar)(x:Bool×List DT×Nat)(y:Value):Prop where
 run:(match r with| .tmp t=>(pure (tm.getD t undef):Sem Value)| .cell a t=>do loadVar t (←asAddr (tm.getD a undef))).run P w = .ok y w
 part:VPart (x.1,x.2.1) y
 holds:∀t∈x.2.1,Holds w t
 own:∀t∈x.2.1,t.isOwn=true→OwnT w t
 home:∃s,D[x.2.2]?=some s∧∀b,(x.2.1.flatMap ownR).count b≤(ownBl s).count b
theorem Inv.resOne {tab:Tab}(ok:bz P tab)(I:Inv cx D [] tm w){r:ResultVar}{x:Bool×List DT×Nat}(e:resOne mkD tab D r=some x):∃y,O0 P D tm w r x y:=by
 cases r with
 |tmp t =>
  simp only[Am.resOne]at e;split at e
  ·rename_i u h;cases e;have hv:=I.val t _ h;have g:=I.mem _ (WC h);exact⟨_,⟨rfl,⟨u,rfl,hv⟩,fun v f=>g.1 v (by simpa[an]using f),fun v f=>g.2.1 v (by simpa[rootsO]using f),_,h,fun b=>by simp[ownBl]⟩⟩
  ·rename_i ts h;cases e;have hv:=I.val t _ h;have g:=I.mem _ (WC h);exact⟨_,⟨rfl,hv,g.1,g.2.1,_,h,fun b=>Xj _⟩⟩
  ·rename_i h c st lo len hD;split at e
   case isFalse=>cases e
   rename_i i;split at e
   case h_2=>cases e
   rename_i u j;split at e
   case isFalse=>cases e
   rename_i L;split at e
   case h_2=>cases e
   rename_i d z rows o;cases e;have hv:=I.val t _ hD;obtain⟨X,Y,n,ad,⟨Z,q1,q2,k2,q,M,q4⟩,R,A,l,B⟩:=hv;rw[j]at q1;cases q1;rw[o]at M;cases M;obtain⟨s,hs,F,S,G,N⟩:=cj j;have g:=I.mem s F;have H:=Holds.getN st (g.1 u S) o;have O:=OwnT.getN st (g.2.1 u G L) o;refine⟨_,⟨rfl,⟨_,rfl,?_⟩,fun v f=>?_,fun v f _=>?_,s,hs,fun b=>?_⟩⟩
   ·rw[A];exact EF (by omega) H.cap O.sp rfl l B H.nilrows i
   ·simp at f;subst f;exact H.win lo len (by omega)
   ·simp at f;subst f;exact O.win lo len (by omega)
   ·have Q:=uH (k := .own) (k' := .own) (d:=d) (z:=z) rows lo len b;have p:=j9 st o b;have h3:(bl u).count b≤(ownBl s).count b:=by
     unfold aw at j;simp only[WA]at j;obtain⟨cs,⟨s',m,J⟩,U⟩:=j;rw[hs]at m;cases m;have h4:=q9 J b;have V:=bY ownR (T.any:DT) b cs c u U;have h6:(ownR (T.any:DT)).count b=0:=rfl;have W:ownR u=bl u:=by simp[ownR,L]
     rw[W]at V;omega
    simp only[W1,Yr,WX,ownR,T.isOwn,W8];omega
  ·cases e
 |cell a t =>
  simp only[Am.resOne]at e;split at e
  ·rename_i b ts ti hD K;split at e
   case isFalse=>cases e
   rename_i hc;cases e;have hv:=I.val a _ hD;have g:=I.mem _ (WC hD);have C:Cells w b.1 b.2 ts:=⟨g.2.2.1,g.1⟩
   obtain⟨y,Q,p⟩:=C.load (Tab.ok ok K) hc.2.1 hc.1 hc.2.2;have A:tm.getD a undef = .pointer (some ⟨b.1,b.2,none⟩):=hv;refine⟨y,⟨?_,?_,g.1,g.2.1,_,hD,fun x=>?_⟩⟩
   ·show((do loadVar t (←asAddr (tm.getD a undef))):Sem Value).run P w=_;rw[A];exact Q
   ·unfold VPart;simp only;split at p
    ·rename_i l;rw[Wz l];exact p
    ·rename_i l;rw[WM l];exact p
   ·simp only[ownBl,XL];omega
  ·cases e
def BX (tm:Array Value):ResultVar→Sem Value
 | .tmp t=>pure (tm.getD t undef)
 | .cell a t=>do loadVar t (←asAddr (tm.getD a undef))
theorem Inv.resL {P:Program}{tab:Tab}(ok:bz P tab){cx:Cx}{D:DSt}{tm:Array Value}{w:World}(I:Inv cx D [] tm w):∀{rs:List ResultVar}{l:List (Bool×List DT×Nat)},
  resL mkD tab D rs=some l→∃ys:List Value,ys.length=l.length∧(rs.mapM (BX tm)).run P w = .ok ys w∧∀(i:Nat)(x:Bool×List DT×Nat)(y:Value),l[i]?=some x→ys[i]?=some y→∃r,O0 P D tm w r x y
 |[],l,e=>by cases e;exact⟨[],rfl,by simp,fun i x y h=>by simp at h⟩
 |r::rs,l,e=>by
  simp only[Am.resL,WA,WD]at e;obtain⟨x,c,xs,d,rfl⟩:=e;obtain⟨y,b⟩:=I.resOne ok c;obtain⟨ys,g1,f,g3⟩:=Inv.resL ok I d;refine⟨y::ys,by simp[g1],?_,fun i g j hi a=>?_⟩
  ·have k:(BX tm r).run P w = .ok y w:=by have:=b.run;cases r<;>exact this
   simp[List.mapM_cons,k,f]
  ·cases i with
   |zero=>simp at hi a;subst hi;subst a;exact⟨r,b⟩
   |succ i=>simp at hi a;exact g3 i g j hi a
def BY:List Value→Value|[y]=>y|ys=>.tuple ys.toArray
theorem Dp (fn:Func)(tm:Array Value)(w:World){ys:List Value}(h:(fn.results.toList.mapM (BX tm)).run P w = .ok ys w):
  (results fn tm).run P w = .ok (BY ys) w:=by
 have e:results fn tm=(do let a ←fn.results.mapM (BX tm);pure (if h:a.size=1 then a[0]else .tuple a)):=by unfold results;congr 1
 rw[e,Array.mapM_eq_mapM_toList];simp only[Sem.run_bind,Sem.run_map,h]
 match ys with
 |[]=>simp[BY]
 |[y]=>simp[BY]
 |y::b::ys=>simp[BY]
theorem GX:∀(l:List (List Nat×Nat))(D:DSt),(l.map (·.2)).Nodup→(∀x∈l,∃s,D[x.2]?=some s∧∀b,x.1.count b≤(ownBl s).count b)→∀b,(l.flatMap (·.1)).count b≤bF D b
 |[],D,_,_,b=>by simp
 |x::l,D,i,h,b=>by
  rw[WT,Za]at i;obtain⟨a,c⟩:=i;obtain⟨s,hs,hc⟩:=h x (by simp);have k:=bY ownBl (Sl.any:DSl) b D x.2 s hs;have m:(ownBl (Sl.any:DSl)).count b=0:=rfl;have n:=GX l (D.set x.2 .any) c (fun y j=>by
   obtain⟨s',d,f⟩:=h y (by simp[j]);have g:x.2≠y.2:=fun e=>a (by rw[e];exact WU.2 ⟨y,j,rfl⟩)
   exact⟨s',by rw[WR g];exact d,f⟩) b
  have o:=hc b;rw[W1,W3];unfold bF at *;omega
theorem Qo (l:List (Bool×List DT×Nat)):(l.flatMap fun r=>r.2.1.flatMap ownR)=((l.filter ownAny).flatMap fun r=>r.2.1.flatMap ownR):=by
 induction l with
 |nil=>rfl
 |cons y l' b =>
  by_cases a:ownAny y=true
  ·rw[List.filter_cons_of_pos a,W1,W1,b]
  ·rw[List.filter_cons_of_neg a,W1,b];have:y.2.1.flatMap ownR=[]:=by
    rw[WY];intro t c;refine fK ?_;cases d:t.isOwn with
    |false=>rfl
    |true=>exact absurd (by unfold ownAny;rw[XX];exact⟨t,c,d⟩) a
   rw[this];rfl
theorem GV {cx:Cx}{D:DSt}{tm:Array Value}{w:World}(I:Inv cx D [] tm w){w0:World}{X:List Nat}:∀(ad:List DSl)(j:List Value)(k:Nat){os:eo},ad.length=j.length →
  (∀(i:Nat)(a:DSl)(y:Value),ad[i]?=some a→j[i]?=some y→AOk w0 X a y)→pf D (ce k ad)=some os →
  (∀(i:Nat)(a:DSl)(y:Value),ad[i]?=some a→j[i]?=some y→(de a).isSome=true→tm.getD (k+i) undef=y) →
  OutsOk w ad j os∧(∀r∈os,∃s∈D,∀t∈r.2,t = .any∨t∈rootsO s∧t∈an s)∧(∀p∈ce k ad,p.1<D.length) ∧
   ∀b,(bG os).count b+(ad.flatMap c7).count b≤(((ce k ad).map fun p=>(ownBl (D[p.1]?.getD .any),p.1)).flatMap (·.1)).count b
 |[],j,k,os,_,_,e,_=>by cases e;refine⟨?_,fun r h=>(by cases h),fun p h=>(by cases h),fun b=>by simp[bG]⟩;cases j<;>exact rfl
 |a::as,[],k,os,A,_,_,_=>by simp at A
 |a::as,y::ys,k,os,A,M,e,N=>by
  have O:=fun {os}=>GV I (w0:=w0) (X:=X) as ys (k+1) (os:=os) (by simpa using A) (fun i B C n v=>M (i+1) B C (by simpa using n) (by simpa using v))
  have l:∀(i:Nat)(a:DSl)(y:Value),as[i]?=some a→ys[i]?=some y→(de a).isSome=true→tm.getD (k+1+i) undef=y:=fun i B C n v Q=>by rw[show k+1+i=k+(i+1) by omega];exact N (i+1) B C (by simpa using n) (by simpa using v) Q
  unfold ce at e ⊢;cases c:de a with
  |none =>
   rw[c]at e;obtain⟨F,i2,i3,i4⟩:=O e l;have hb:c7 a=[]:=by cases a<;>first|rfl|cases c
   refine⟨?_,i2,i3,fun b=>?_⟩
   ·unfold OutsOk;rw[c];exact F
   ·rw[W1,hb,W7];exact i4 b
  |some q =>
   rw[c]at e;simp only[pf,WA,WD]at e;obtain⟨o,f,G,R,rfl⟩:=e;obtain⟨F,i2,i3,i4⟩:=O R l;have H:tm.getD k undef=y:=N 0 a y rfl rfl (by rw[c];rfl);have m:=M 0 a y rfl rfl;have J:Es w a y o∧∃s,D[k]?=some s∧(∀t∈o.2,t = .any∨t∈rootsO s∧t∈an s)∧∀b,(o.2.flatMap ownR).count b+(c7 a).count b≤(ownBl s).count b:=by
    unfold yr at f;split at f
    ·rename_i z ts' g hD;cases f;have hb:∃b ts,a = .box b ts:=Te (by rw[c];exact WV some g);obtain⟨b,ts,rfl⟩:=hb;have v1:y = .pointer (some ⟨b.1,b.2,none⟩):=m.val D;have v2:tm.getD k undef = .pointer (some ⟨z.1,z.2,none⟩):=I.val k _ hD;rw[H,v1]at v2;simp only[Value.pointer.injEq,Xd,Addr.mk.injEq]at v2;have K:z=b:=by obtain⟨W,Y⟩:=b;obtain⟨Z,p4⟩:=z;simp at v2;simp[v2.1,v2.2]
     subst K;have P:=I.mem _ (WC hD);exact⟨⟨rfl,P.2.2.1,P.2.2.2⟩,_,hD,fun t d=>.inr ⟨d,d⟩,fun x=>by simp only[ownBl,c7,XL,Zx];omega⟩
    ·rename_i u g hD;cases f;have hb:∃u,a = .one u:=DS (by rw[c];exact WV some g);obtain⟨L,rfl⟩:=hb;have v2:=I.val k _ hD;rw[H]at v2;exact⟨⟨⟨u,rfl,v2⟩,rfl⟩,_,hD,fun t d=>.inr ⟨by simpa[rootsO]using d,by simpa[an]using d⟩,fun x=>by simp[ownBl,c7]⟩
    ·rename_i g hD;cases f;have hb:∃u,a = .one u:=DS (by rw[c];exact WV some g);obtain⟨L,rfl⟩:=hb;have v1:VT L y:=m.val D;exact⟨⟨⟨.any,rfl,v1.one⟩,rfl⟩,_,hD,fun t d=>.inl (by simpa using d),fun x=>by simp[ownBl,c7,ownR,T.isOwn]⟩
    ·rename_i ts g hD;cases f;have hb:∃u,a = .agg u:=Td (by rw[c];exact WV some g);obtain⟨L,rfl⟩:=hb;have v2:=I.val k _ hD;rw[H]at v2;exact⟨⟨v2,rfl⟩,_,hD,fun t d=>.inr ⟨d,d⟩,fun x=>by simp[ownBl,c7]⟩
    ·cases f
   obtain⟨S,s,k2,U,V⟩:=J;refine⟨?_,fun r hr=>?_,fun p hp=>?_,fun b=>?_⟩
   ·unfold OutsOk;rw[c];exact⟨o,G,rfl,S,F⟩
   ·rcases WZ.1 hr with rfl|hr
    ·exact⟨s,WC k2,U⟩
    ·exact i2 r hr
   ·rcases WZ.1 hp with rfl|hp
    ·exact ff k2
    ·exact i3 p hp
   ·have n:=V b;have v:=i4 b;simp only[bG,W1,WT,W3,k2,YA]at *;omega
theorem S8 {t:DT}(h:t.fine=true)(a:t.isOwn=true→OwnT w t):OwnT w t:=by
 cases t with
 |v x=>exact .v x
 |any=>exact .any
 |s k d z r=>cases k<;>first|exact a rfl|cases h
theorem Inv.endPtr {w0:World}{X:List Nat}(I:Inv ⟨w0,X⟩ D [] tm w){J:List Value}(Y:ArgsOk w0 X ad J)(hT:∀(i:Nat)(a:DSl)(y:Value),ad[i]?=some a→J[i]?=some y→(de a).isSome=true→tm.getD i undef=y){fn:Func}{r:Bool×List DT}{t:Nat}(d:vf mkD D fn.results.toList=some (r,t)){os:eo}(h0:pf D (ce 0 ad)=some os)(K:(os.all fun r=>r.2.all T.fine)=true)(L:((ce 0 ad).map (·.1)++[t]).Nodup):
  ∃v od rd,os++[r]=od++rd∧(results fn tm).run P w = .ok v w∧OutsOk w ad J od∧RetOk w0 X w (ad.flatMap c7) od rd v:=by
 unfold vf at d;split at d
 case h_2=>cases d
 rename_i t' M;rw[WA]at d;obtain⟨h',n,d⟩:=d;split at d
 case h_2=>cases d
 rename_i b ts hD;split at d
 case isFalse=>cases d
 rename_i hc;cases d;obtain⟨z,Z⟩:=hc;have l:∀u∈ts,u.fine=true:=fun u k=>WS.1 z u k
 obtain⟨o1,o2,o3,o4⟩:=GV I ad J 0 Y.1 Y.2.1 h0 (fun i a y q1 A q3=>by rw[Yk];exact hT i a y q1 A q3);have hm:=I.mem _ (WC hD);have hv:tm.getD t' undef = .pointer (some ⟨b.1,b.2,none⟩):=by
  unfold mn at n;simp only at n;split at n
  ·rename_i b' ts' hb;cases n;rw[hD]at hb;cases hb;exact I.val _ _ hD
  ·rename_i h2 hb;cases n;obtain⟨b',ts',k1,k2⟩:=I.val _ _ hb;rw[hD]at k1;cases k1;exact k2
  ·cases n
 have F:(results fn tm).run P w = .ok (BY [tm.getD t' undef]) w:=Dp fn tm w (by rw[M];simp[List.mapM_cons,BX]);obtain⟨N,O,⟨c,e,f,Q,l2⟩,R⟩:=hm;have S:b.2+ts.length≤c.size:=by
  have U:ts.length-1<ts.length:=by omega
  obtain⟨y,hy,_⟩:=l2 (ts.length-1) ts[ts.length-1] (WE U);rcases WI (b.2+(ts.length-1)) c.size with g|g
  ·omega
  ·rw[Xz g]at hy;cases hy
 have m:∀(i:Nat)(row:List DT),([ts]:List (List DT))[i]?=some row→i=0∧row=ts:=by
  intro i row h;cases i with
  |zero=>simp at h;exact⟨rfl,h.symm⟩
  |succ i=>simp at h
 have B:Holds w (.s .own (mkD.ptr b) ts.length [ts]):=by
  refine .s _ _ _ _ rfl rfl c e f Q (by simp[mkD]) (fun i row h=>by rw[(m i row h).2]) (fun i row j u C h2=>?_) fun i row j u C h2=>?_
  ·obtain⟨rfl,rfl⟩:=m i row C;simpa[mkD]using l2 j u h2
  ·obtain⟨rfl,rfl⟩:=m i row C;exact N u (WC h2)
 have G:OwnT w (.s .own (mkD.ptr b) ts.length [ts]):=by
  obtain⟨lo,hi⟩:=f;refine .s _ _ _ rfl rfl c e lo hi Q (by simp[mkD]) (by simpa[mkD]using S) (fun x C h2=>R c e lo hi Q x C (by simpa[mkD]using h2)) fun i row j u C h2=>?_
  obtain⟨rfl,rfl⟩:=m i row C;have k:=WC h2;exact S8 (l u k) (O u k)
 have V:bG ([(false,[.s .own (mkD.ptr b) ts.length [ts],.any])]:eo)=ownBl (.box b ts):=by simp only[bG,ownBl,W1,Yr,WX,ownR,T.isOwn,W8,cS,mkD];simp[←Gl l]
 have H:=GX (((ce 0 ad).map fun p=>(ownBl (D[p.1]?.getD .any),p.1))++[(ownBl (.box b ts),t)]) D
  (by rw[XB,Xk];exact L) (fun x hx=>by
   rcases W5.1 hx with hx|hx
   ·obtain⟨p,hp,rfl⟩:=WU.1 hx;have:=o3 p hp;exact⟨D[p.1],WE this,fun b=>by rw[WE this];exact Xj _⟩
   ·rw[WG]at hx;subst hx;exact⟨_,hD,fun b=>Xj _⟩)
 have o:∀x,(bG (os++[(false,[.s .own (mkD.ptr b) ts.length [ts],.any])])).count x+(ad.flatMap c7).count x≤bF D x:=by intro x;have q1:=H x;have A:=o4 x;rw[XR,W3]at q1;rw[nk,W3,V];simp only[W1,Yr,WX]at q1;omega
 refine⟨_,os,_,rfl,F,o1,⟨.inr (.inr ⟨_,_,_,rfl,hv⟩),?_,?_,?_,?_,?_⟩⟩
 ·intro r hr u k;rcases W5.1 hr with hr|hr
  ·exact WS.1 (WS.1 K r hr) u k
  ·rw[WG]at hr;subst hr;simp only[WZ,Yh,Y0]at k;rcases k with rfl|rfl<;>rfl
 ·intro r hr u k;rcases W5.1 hr with hr|hr
  ·obtain⟨s,q1,A⟩:=o2 r hr;exact(A u k).elim (fun e=>by subst e;exact .any) fun q=>(I.mem s q1).1 u q.2
  ·rw[WG]at hr;subst hr;simp only[WZ,Yh,Y0]at k;rcases k with rfl|rfl
   ·exact B
   ·exact .any
 ·intro r hr u k W;rcases W5.1 hr with hr|hr
  ·obtain⟨s,q1,A⟩:=o2 r hr;exact(A u k).elim (fun e=>by subst e;cases W) fun q=>(I.mem s q1).2.1 u q.1 W
  ·rw[WG]at hr;subst hr;simp only[WZ,Yh,Y0]at k;rcases k with rfl|rfl
   ·exact G
   ·cases W
 ·intro x;have q1:=o x;have A:=I.once x;omega
 ·intro x hx;have q1:=o x;have q3:0<bF D x:=by have:=WW.2 hx;omega
  exact I.bnd x (by omega)
theorem Inv.ends {tab:Tab}(ok:bz P tab){w0:World}{X:List Nat}(I:Inv ⟨w0,X⟩ D [] tm w){B:List Value}(F:ArgsOk w0 X ad B)(N:∀(i:Nat)(a:DSl)(y:Value),ad[i]?=some a→B[i]?=some y→(de a).isSome=true→tm.getD i undef=y){fn:Func}{all:eo}(e:yX mkD tab D (ce 0 ad) fn.results.toList=some all):∃v od rd,all=od++rd∧(results fn tm).run P w = .ok v w∧OutsOk w ad B od∧RetOk w0 X w (ad.flatMap c7) od rd v:=by
 unfold yX at e;split at e
 ·rename_i r t G;rw[WA]at e;obtain⟨os,H,e⟩:=e;split at e
  case isFalse=>cases e
  rename_i hc;cases e;exact I.endPtr F N G H hc.1 hc.2
 rw[WA]at e;obtain⟨os,H,e⟩:=e;rw[WA]at e;obtain⟨l,R,e⟩:=e;split at e
 case isFalse=>cases e
 rename_i hc;cases e;obtain⟨J,n,K⟩:=hc;obtain⟨S,O,U,V⟩:=GV I ad B 0 F.1 F.2.1 H (fun i a y q1 o C=>by rw[Yk];exact N i a y q1 o C);obtain⟨ys,g1,W,g3⟩:=I.resL ok R;have d:∀x∈l,∃(i:Nat) (y:Value) (r:ResultVar),l[i]?=some x∧ys[i]?=some y∧O0 P D tm w r x y:=by
  intro x hx;obtain⟨i,hi⟩:=WL hx;have z:i<ys.length:=by rw[g1];exact ff hi
  obtain⟨r,hr⟩:=g3 i x ys[i] hi (WE z);exact⟨i,ys[i],r,hi,WE z,hr⟩
 have f:∀r∈l.map (fun r=>(r.1,r.2.1)),∃x∈l,r=(x.1,x.2.1):=fun r hr=>by obtain⟨x,hx,rfl⟩:=WU.1 hr;exact⟨x,hx,rfl⟩
 have u:bG (l.map fun r=>(r.1,r.2.1))=l.flatMap fun r=>r.2.1.flatMap ownR:=by unfold bG;rw[Yq]
 have A:=GX (((ce 0 ad).map fun p=>(ownBl (D[p.1]?.getD .any),p.1))++(l.filter ownAny).map fun r=>(r.2.1.flatMap ownR,r.2.2)) D
  (by rw[XB,Xk,Xk];exact K) (fun x hx=>by
   rcases W5.1 hx with hx|hx
   ·obtain⟨p,j,rfl⟩:=WU.1 hx;have:=U p j;exact⟨D[p.1],WE this,fun b=>by rw[WE this];exact Xj _⟩
   ·obtain⟨r,hr,rfl⟩:=WU.1 hx;obtain⟨i,y,L,_,_,c⟩:=d r (XV.1 hr).1;exact c.home)
 have k:∀b,(bG (os++l.map fun r=>(r.1,r.2.1))).count b+(ad.flatMap c7).count b≤bF D b:=by
  intro b;have q1:=A b;have o:=V b;rw[XR,W3]at q1;rw[nk,W3,u,Qo];have C:((l.filter ownAny).map fun r=>(r.2.1.flatMap ownR,r.2.2)).flatMap (·.1)=(l.filter ownAny).flatMap fun r=>r.2.1.flatMap ownR:=by rw[Yq]
  rw[C]at q1;omega
 refine⟨_,os,_,rfl,Dp fn tm w W,S,⟨?_,?_,?_,?_,?_,?_⟩⟩
 ·have j:∀(i:Nat)(r:Bool×List DT)(y:Value),(l.map fun r=>(r.1,r.2.1))[i]?=some r→ys[i]?=some y→VPart r y:=by intro i r y hi Y;rw[WQ,WD]at hi;obtain⟨x,hx,rfl⟩:=hi;obtain⟨L,c⟩:=g3 i x y hx Y;exact c.part
  match ys,l,g1,j with
  |[y],[x],_,j=>exact .inl ⟨_,rfl,j 0 _ y rfl rfl⟩
  |[],[],_,j=>exact .inr (.inl ⟨by simp,⟨#[],rfl,rfl,fun i r v h=>by simp at h⟩⟩)
  |y::Q::ys,x::Z::l,g,j =>refine .inr (.inl ⟨by simp,⟨(y::Q::ys).toArray,rfl,by simp at g ⊢;omega,fun i r v hi hv=>j i r v hi hv⟩⟩)
  |[],x::l,g,_=>simp at g
  |y::ys,[],g,_=>simp at g
  |[y],x::Z::l,g,_=>simp at g
  |y::Q::ys,[x],g,_=>simp at g
 ·intro r hr t m;rcases W5.1 hr with hr|hr
  ·exact WS.1 (WS.1 J r hr) t m
  ·obtain⟨x,hx,rfl⟩:=f r hr;exact WS.1 (WS.1 n x hx) t m
 ·intro r hr t m;rcases W5.1 hr with hr|hr
  ·obtain⟨s,q1,o⟩:=O r hr;exact(o t m).elim (fun e=>by subst e;exact .any) fun q=>(I.mem s q1).1 t q.2
  ·obtain⟨x,hx,rfl⟩:=f r hr;obtain⟨i,y,L,_,_,c⟩:=d x hx;exact c.holds t m
 ·intro r hr t m M;rcases W5.1 hr with hr|hr
  ·obtain⟨s,q1,o⟩:=O r hr;exact(o t m).elim (fun e=>by subst e;cases M) fun q=>(I.mem s q1).2.1 t q.1 M
  ·obtain⟨x,hx,rfl⟩:=f r hr;obtain⟨i,y,L,_,_,c⟩:=d x hx;exact c.own t m M
 ·intro b;have q1:=k b;have o:=I.once b;omega
 ·intro b hb;have q1:=k b;have C:0<bF D b:=by have:=WW.2 hb;omega
  exact I.bnd b (by omega)
theorem KN {w w0:World}{X:List Nat}:∀(ad:List DSl)(c:List Value)(k:Nat),ad.length=c.length →
  (∀(i:Nat)(a:DSl)(y:Value),ad[i]?=some a→c[i]?=some y→AOk w0 X a y)→((ce k ad).all fun p=>match p.2 with| .one=>true|_=>false)=true →
  OutsOk w ad c ((ce k ad).map fun _=>(false,[.any]))∧ad.flatMap c7=[]
 |[],c,k,_,_,_=>by refine⟨?_,rfl⟩;cases c<;>exact rfl
 |a::as,[],k,d,_,_=>by simp at d
 |a::as,y::ys,k,d,f,hh=>by
  have g:=KN (w:=w) (w0:=w0) (X:=X) as ys (k+1) (by simpa using d) fun i h j l m=>f (i+1) h j (by simpa using l) (by simpa using m)
  unfold ce at hh ⊢;cases b:de a with
  |none =>
   rw[b]at hh;obtain⟨e,i2⟩:=g hh;have hb:c7 a=[]:=by cases a<;>first|rfl|cases b
   refine⟨?_,by rw[W1,hb,W7];exact i2⟩;unfold OutsOk;rw[b];exact e
  |some q =>
   rw[b]at hh;simp only[X9,W0]at hh;obtain⟨e,i2⟩:=g hh.2;have n:q = .one:=by have:=hh.1;cases q<;>first|rfl|cases this
   subst n;obtain⟨u,rfl⟩:=DS b;have v1:VT u y:=(f 0 _ y rfl rfl).val [];refine⟨?_,by rw[W1];exact i2⟩;unfold OutsOk;rw[b];exact⟨_,_,rfl,⟨⟨.any,rfl,v1.one⟩,rfl⟩,e⟩
theorem Inv.endsV {tab:Tab}(ok:bz P tab){w0:World}{X:List Nat}(I:Inv ⟨w0,X⟩ D [] tm w){f:List Value}(k:ArgsOk w0 X ad f){fn:Func}{all:eo}(e:A5 mkD tab D (ce 0 ad) fn.results.toList=some all):∃v od rd,all=od++rd∧(results fn tm).run P w = .ok v w∧OutsOk w ad f od∧RetOk w0 X w (ad.flatMap c7) od rd v:=by
 unfold A5 at e;split at e
 case isFalse=>cases e
 rename_i d;rw[WD]at e;obtain⟨r,m,rfl⟩:=e;obtain⟨v,od,rd,rfl,g1,n,R⟩:=I.ends ok (ArgsOk.nil w0 X) (fun i a y h=>by simp at h) m;have:od=[]:=n;subst this;obtain⟨o,p⟩:=KN (w:=w) ad f 0 k.1 k.2.1 d;refine⟨v,_,rd,by rw[W7],g1,o,?_⟩;rw[p];have hz:∀(l:List (Nat×HK)),bG (l.map fun _=>((false,[T.any]):Bool×List DT))=[]:=by intro l;unfold bG;rw[WY];intro r hr;obtain⟨_,_,rfl⟩:=WU.1 hr;rfl
 have hr:∀b,(bG ((ce 0 ad).map (fun _=>((false,[T.any]):Bool×List DT))++rd)).count b=(bG rd).count b:=by intro b;rw[nk,hz,W7]
 have g:∀r∈(ce 0 ad).map (fun _=>((false,[T.any]):Bool×List DT))++rd,(∀t∈r.2,t = .any)∨r∈[]++rd:=by
  intro r hr;rcases W5.1 hr with hr|hr
  ·obtain⟨_,_,rfl⟩:=WU.1 hr;exact .inl fun t c=>by simpa using c
  ·exact .inr (by simpa using hr)
 refine⟨R.val,fun r hr t c=>?_,fun r hr t c=>?_,fun r hr t c j=>?_,fun b=>?_,fun b hb=>?_⟩
 ·rcases g r hr with q|q
  ·rw[q t c];rfl
  ·exact R.fine r q t c
 ·rcases g r hr with q|q
  ·rw[q t c];exact .any
  ·exact R.holds r q t c
 ·rcases g r hr with q|q
  ·rw[q t c]at j;cases j
  ·exact R.own r q t c j
 ·rw[hr];have:=R.once b;rw[W7]at this;exact this
 ·refine R.new b ?_;rw[W7];exact WW.1 (by rw[←hr];exact WW.2 hb)
def TA (tab:Tab)(gv:Bool)(fn:Func)(hs:List (Nat×HK)):Exit→US→Option URes| .normal,D=>if gv=true then A5 mkU tab D hs fn.results.toList else yX mkU tab D hs fn.results.toList| .ret,D=>if gv=true then A5 mkU tab D hs fn.results.toList else yX mkU tab D hs fn.results.toList|_,_=>none
noncomputable def vg (tab:Tab)(fns:FuncId→Option Func)(hints:FuncId→kK)(orc:Sem1→Sem1):Nat→Sem1
 | 0=>fun _ _=>none
 |k+1=>fun f as =>
  match orc (vg tab fns hints orc k) f as with
  |some r=>some r
  |none =>
   match fns f with
   |some fn =>
    match fn.body with
    |some c=>if(tab.gv.contains f ||Ta ((ce 0 as).map (·.1)) c)=true then gd tab fns (vg tab fns hints orc k) (hints f) k c (as++List.replicate (fn.ntmps-as.length) .any) (TA tab (tab.gv.contains f) fn (ce 0 as))else none
    |none=>none
   |none=>none
theorem Inv.enter {X:List Nat}{d:List Value}(h:ArgsOk w X ad d)(n:Nat):Inv ⟨w,X⟩ (ad++List.replicate n .any) [] (d.toArray++Array.replicate n undef) w:=by
 obtain⟨l,m,j⟩:=h;have c:∀s∈ad++List.replicate n (.any:DSl),s = .any∨∃(i:Nat) (y:Value),ad[i]?=some s∧d[i]?=some y∧AOk w X s y:=by
  intro s hs;rcases W5.1 hs with hs|hs
  ·right;obtain⟨i,hi⟩:=WL hs;have a:i<d.length:=by rw[←l];exact ff hi
   exact⟨i,d[i],hi,WE a,m i s _ hi (WE a)⟩
  ·left;exact XE hs
 have f:∀b,bF (ad++List.replicate n (.any:DSl)) b=(ad.flatMap ownBl).count b:=by
  intro b;unfold bF;rw[XR,W3];have:(List.replicate n (.any:DSl)).flatMap ownBl=[]:=by rw[WY];intro s hs;rw[XE hs];rfl
  rw[this];rfl
 refine⟨by simp[l],fun t s hs=>?_,fun s hs=>?_,fun s hs=>?_,fun p o=>(by cases o),fun b=>by rw[f,cX];exact j b,fun b hb=>?_,⟨rfl,rfl,rfl,Xj _,fun b _=>rfl⟩⟩
 ·rcases WI t ad.length with g|g
  ·rw[Xr g]at hs;have a:t<d.length:=by omega
   have:=(m t s d[t] hs (WE a)).val (ad++List.replicate n .any);have e:(d.toArray++Array.replicate n undef).getD t undef=d[t]:=by rw[Xo,Yg (by simpa using a)];simp[a]
   rw[e];exact this
  ·rw[Xp g]at hs;have:=WC hs;rw[XE this];trivial
 ·rcases c s hs with rfl|⟨i,y,_,_,h⟩
  ·exact⟨fun u k=>by simp[an]at k,fun u k=>by simp[rootsO]at k,trivial⟩
  ·exact h.mem
 ·rcases c s hs with rfl|⟨i,y,_,_,h⟩
  ·exact fun u k=>by simp[an]at k
  ·exact h.kind _
 ·rw[f,cX,Nat.add_zero]at hb;obtain⟨s,hs,hb⟩:=WP.1 (WW.1 hb);rcases c s (W5.2 (.inl hs))with rfl|⟨i,y,_,_,h⟩
  ·simp[ownBl]at hb
  ·have:=h.own b hb;exact⟨.inr this.1,this.2⟩
theorem C5:∀(ad:List DSl)(k i:Nat)(a:DSl),ad[i]?=some a→(de a).isSome=true→k+i∈(ce k ad).map (·.1)
 |[],k,i,a,h,_=>by simp at h
 |a::as,k,0,c,h,b=>by
  simp at h;subst h;unfold ce;cases d:de a with
  |none=>rw[d]at b;cases b
  |some q=>simp
 |a::as,k,i+1,c,h,b=>by
  have:=C5 as (k+1) i c (by simpa using h) b;unfold ce;rw[show k+(i+1)=k+1+i by omega];cases d:de a with
  |none=>exact this
  |some q=>exact Ya _ this
theorem zA {P:Program}{tab:Tab}(ok:bz P tab){fns:FuncId→Option Func}(hf:jk P fns)(hints:FuncId→kK){orc:Sem1→Sem1}{B:Base}(n:∀C,CallsOk P B C→CallsOk P B (orc C)):∀k,CallsOk P B (vg tab fns hints orc k)
 | 0=>fun f as rs h=>by cases h
 |k+1=>fun f as rs h w X ad d N x p=>by
  simp only[vg]at h;split at h
  ·rename_i r R;cases h;exact n _ (zA ok hf hints n k) f as _ R w X ad d N x p
  ·split at h
   case h_2=>cases h
   rename_i fn z;split at h
   case h_2=>cases h
   rename_i c hc;split at h
   case isFalse=>cases h
   rename_i hfix;obtain⟨S,Y,Z⟩:=hf f fn z;have U:as.length=d.length:=by rw[←x,W6];exact p.1
   have hh:ce 0 as=ce 0 ad:=by rw[←x,ER]
   have A:as++List.replicate (fn.ntmps-as.length) (.any:Sl Unit Unit)=erD (ad++List.replicate (fn.ntmps-d.length) .any):=by rw[U, ←x];simp[erD,Sl.er]
   rw[A,hh]at h;rw[hh]at hfix;refine calls_of_wp S hc ?_;have I:=Inv.enter p (fn.ntmps-d.length);have D:d.toArray.size=d.length:=by simp
   have V:∀o∈uk c,∀(a:Act)(y:Value),(a.defers=[]∧(tab.gv.contains f=false→∀(i:Nat)(s:DSl)(v:Value),ad[i]?=some s→d[i]?=some v→(de s).isSome=true→a.tmps.getD i undef=v)) →
     ((a.put o.dst y).defers=[]∧(tab.gv.contains f=false→∀(i:Nat)(s:DSl)(v:Value),ad[i]?=some s→d[i]?=some v→(de s).isSome=true→(a.put o.dst y).tmps.getD i undef=v)):=by
    rintro o n a y ⟨W,t2⟩;refine⟨by unfold Act.put;split<;>exact W,fun g i s v q1 q F=>?_⟩;rw[g,YD]at hfix;cases hd:o.dst with
    |none=>exact t2 g i s v q1 q F
    |some t =>
     have hi:=C5 ad 0 i s q1 F;rw[Yk]at hi;have G:t≠i:=by
      rintro rfl;unfold Ta at hfix;rw[YN]at hfix;rcases hfix with hfix|hfix
      ·rw[List.isEmpty_iff]at hfix;rw[hfix]at hi;cases hi
      ·have:=WS.1 hfix o n;rw[hd]at this;simp only[Zp,List.contains_eq_mem,YR]at this;exact this hi
     show(a.tmps.setIfInBounds t y).getD i undef=v;rw[Xo,Y6 G, ←Xo];exact t2 g i s v q1 q F
   have H:∀(i:Nat)(s:DSl)(v:Value),ad[i]?=some s→d[i]?=some v→(de s).isSome=true→(d.toArray++Array.replicate (fn.ntmps-d.toArray.size) undef).getD i undef=v:=by intro i s v _ q _;have J:=ff q;rw[Xo,Yg (by simpa using J)];simp[q]
   refine l3 (T:=fun a=>a.defers=[]∧(tab.gv.contains f=false→∀(i:Nat)(s:DSl)(v:Value),ad[i]?=some s→d[i]?=some v→(de s).isSome=true→a.tmps.getD i undef=v)) (r:=rs) ok hf ⟨zA ok hf hints n k,N⟩ c V (fun e D' O w' l K j=>?_)
    (a:={ tmps:=d.toArray++Array.replicate (fn.ntmps-d.toArray.size) undef,defers:=[] }) (by rw[D];exact I) ⟨rfl,fun _=>H⟩ h
   have u:(if tab.gv.contains f=true then A5 mkU tab (erD D') (ce 0 ad) fn.results.toList else yX mkU tab (erD D') (ce 0 ad) fn.results.toList)=some rs→O.defers=[]∧∃v,(Go.results fn O.tmps).run P w' = .ok v w'∧∃Q od rd,Ending.returned v = .returned Q∧GrewH X w w'∧erR (od++rd)=rs∧OutsOk w' ad d od∧RetOk w X w' (ad.flatMap c7) od rd Q:=by
    intro l;split at l
    ·rw[TU]at l;obtain⟨all,m,rfl⟩:=WD.1 l;obtain⟨v,od,rd,rfl,g1,L,g3⟩:=j.endsV ok p m;exact⟨K.1,v,g1,v,od,rd,rfl,⟨j.frame.os,j.frame.tape,j.frame.output,j.frame.size,fun b hb M=>j.frame.same b ⟨hb,M⟩⟩,rfl,L,g3⟩
    rename_i g;rw[Ys]at g;rw[Oz]at l;obtain⟨all,m,rfl⟩:=WD.1 l;obtain⟨v,od,rd,rfl,g1,L,g3⟩:=j.ends ok p (K.2 g) m;exact⟨K.1,v,g1,v,od,rd,rfl,⟨j.frame.os,j.frame.tape,j.frame.output,j.frame.size,fun b hb M=>j.frame.same b ⟨hb,M⟩⟩,rfl,L,g3⟩
   cases e with
   |normal=>exact u l
   |ret=>exact u l
   |_=>cases l
end Go.Proofs.YtlgddjncnedkgaaGreatDoor.Am
