/- An abstract machine over trees, and that its steps are sound, a part. Conditions: none. -/
import Derived.Test.YticaelmbkfeeaaaAmb
import Derived.Orders
import Derived.LoopN
namespace Go.Proofs.Yticaelmbkfeeaaa.Am
open Go
set_option linter.unusedVariables false
set_option linter.unusedSimpArgs false
section
variable  {δ β : Type}
def kill1 (D:St δ β)(t:Nat):St δ β:=if t<D.length then av D (some t) .any else D
def killAll (l:List Nat)(D:St δ β):St δ β:=l.foldl kill1 D
theorem eK (D:St δ β)(t:Nat):(kill1 D t).length=D.length:=by
 unfold kill1;split
 ·simp[av,au,St.dead]
 ·rfl
theorem gp (D:St δ β)(t u:Nat)(h:t<D.length):(kill1 D t)[u]?=if u=t then some .any else(D[u]?).map (Sl.clean t):=by
 unfold kill1;rw[BZ h];simp only[av,au];by_cases e:u=t
 ·subst e;rw[BZ rfl,B1 (by simp[St.dead];exact h)];rfl
 ·rw[Cd e,B3 (fun q=>e q.symm),B3 (fun q=>e q.symm)];simp only[St.dead,B6,CL];rfl
theorem qG (l:List Nat):∀(D:St δ β),(killAll l D).length=D.length:=by
 induction l with
 |nil=>intro D;rfl
 |cons a l b=>intro D;simp only[killAll,Cw];exact(b _).trans (eK D a)
theorem mI:∀(l:List Nat){D D':St δ β},D.length=D'.length→(∀u,u∉l→D[u]?=D'[u]?)→killAll l D=killAll l D'
 |[],D,D',b,h=>CP fun u=>h u (by simp)
 |a::l,D,D',b,h=>by
  simp only[killAll,Cw];refine mI l (by rw[eK,eK,b]) fun u f=>?_
  by_cases c:a<D.length
  ·rw[gp D a u c,gp D' a u (b ▸ c)];by_cases e:u=a
   ·rw[BZ e,BZ e]
   ·rw[Cd e,Cd e,h u (by simp[e,f])]
  ·have d:¬a<D'.length:=b ▸ c;unfold kill1;rw[Cd c,Cd d];by_cases e:u=a
   ·subst e;rw[BV (by omega),BV (by omega)]
   ·exact h u (by simp[e,f])
end
theorem lj {δ β:Type}{t:Nat}:∀(l:List Nat){D:St δ β},t<D.length→t∈l∨D[t]?=some .any→(killAll l D)[t]?=some .any
 |[],D,_,h=>by
  rcases h with h|h
  ·cases h
  ·exact h
 |a::l,D,c,h=>by
  simp only[killAll,Cw];refine lj l (by rw[eK];exact c) ?_;by_cases b:a<D.length
  ·rw[gp D a t b];by_cases e:t=a
   ·right;rw[BZ e]
   ·rw[Cd e];rcases h with h|h
    ·left;simpa[e]using h
    ·right;rw[h];rfl
  ·rcases h with h|h
   ·left;have:t≠a:=by omega
    simpa[this]using h
   ·right;unfold kill1;rw[Cd b];exact h
theorem yc (D:DSt)(t:Nat):erD (kill1 D t)=kill1 (erD D) t:=by
 unfold kill1;rw[bU];split
 ·exact aX D (some t) .any
 ·rfl
theorem iT (l:List Nat):∀(D:DSt),erD (killAll l D)=killAll l (erD D):=by
 induction l with
 |nil=>intro D;rfl
 |cons a l b=>intro D;simp only[killAll,Cw];rw[←yc];exact b _
theorem Inv.kill1 {cx:Cx}{D:DSt}{tm:Array Value}{w:World}(I:Inv cx D [] tm w)(t:Nat):Inv cx (kill1 D t) [] tm w:=by
 unfold Am.kill1;split
 ·exact I.lose ‹_›
 ·exact I
theorem Inv.killAll {cx:Cx}{tm:Array Value}{w:World}(l:List Nat):∀{D:DSt},Inv cx D [] tm w→Inv cx (killAll l D) [] tm w:=by
 induction l with
 |nil=>intro D I;exact I
 |cons a l b=>intro D I;simp only[Am.killAll,Cw];exact b (I.kill1 a)
theorem uW {p:Nat→Nat→Bool}{t u:DT}(h:t.dead p=u)(a:u.isOwn=true):t=u:=by
 cases t with
 |v x=>exact h
 |any=>exact h
 |s k d z r =>
  cases k with
  |own=>exact h
  |far=>exact h
  |lent b c e =>simp only[T.dead]at h;split at h<;>(subst h;cases a)
theorem ky {D:DSt}{t h c:Nat}{u:DT}(e:ah (kill1 D t) h c=some u)(b:u.isOwn=true):ah D h c=some u:=by
 by_cases a:t<D.length
 ·unfold ah at e;rw[gp D t h a]at e;by_cases hh:h=t
  ·rw[BZ hh]at e;simp[ap]at e
  ·rw[Cd hh]at e;have:ah D h c=(D[h]?.bind ap).bind (·[c]?):=rfl;rw[this];cases hd:D[h]? with
   |none=>rw[hd]at e;simp at e
   |some s =>
    rw[hd]at e;simp only[BQ,BU,Sl.clean,lP,lO]at e ⊢;cases hc:ap s with
    |none=>rw[hc]at e;simp at e
    |some cs =>rw[hc]at e;simp only[BQ,BU,B6]at e ⊢;rw[BS]at e;obtain⟨g,d,f⟩:=e;rw[d,uW f b]
 ·unfold kill1 at e;rw[Cd a]at e;exact e
theorem qZ {D:DSt}{t h:Nat}{b:Nat×Nat}{ts:List DT}(e:(kill1 D t)[h]?=some (.box b ts)):∃ts0,D[h]?=some (.box b ts0):=by
 by_cases c:t<D.length
 ·rw[gp D t h c]at e;by_cases hh:h=t
  ·rw[BZ hh]at e;cases e
  ·rw[Cd hh,BS]at e;obtain⟨s,d,a⟩:=e;rw[d];cases s with
   |box f ts'=>simp only[Sl.clean,Sl.dead,Sl.gone]at a;cases a;exact⟨_,rfl⟩
   |al=>simp only[Sl.clean,Sl.dead]at a;split at a<;>cases a
   |pe=>simp only[Sl.clean,Sl.dead]at a;split at a<;>cases a
   |pb=>simp only[Sl.clean,Sl.dead,Sl.gone]at a;split at a<;>cases a
   |clo=>simp only[Sl.clean,Sl.dead,Sl.gone]at a;split at a<;>cases a
   |im k b ts off =>
    cases k with
    |lent=>simp only[Sl.clean,Sl.dead]at a;split at a<;>cases a
    |_=>cases a
   |_=>cases a
 ·unfold kill1 at e;rw[Cd c]at e;exact⟨ts,e⟩
theorem mK {D:DSt}{t h c:Nat}{st:List (Nat×Nat)}{d:Dec}{z n:Nat}(e:b6 (kill1 D t) h c st d z n):b6 D h c st d z n:=by obtain⟨u,b,a,f⟩:=e;exact⟨u,ky b a,a,f⟩
theorem xP {D:DSt}{t:Nat}{s:DSl}{y:Value}(h:VS (kill1 D t) s y):VS D s y:=by
 cases s with
 |al j c st lo len=>obtain⟨d,z,n,a,e,g⟩:=h;exact⟨d,z,n,a,mK e,g⟩
 |pe j c st i off=>obtain⟨d,z,n,e,g⟩:=h;exact⟨d,z,n,mK e,g⟩
 |pb j off=>obtain⟨b,ts,e,g⟩:=h;obtain⟨ts0,k⟩:=qZ e;exact⟨b,ts0,k,g⟩
 |clo f hs =>obtain⟨l,e,g,k⟩:=h;refine⟨l,e,fun i j b hi hb=>?_,k⟩;obtain⟨ts,m⟩:=g i j b hi hb;exact qZ m
 |_=>exact h
theorem uk {cx:Cx}{D:DSt}{t:Nat}{u:DT}(h:aB cx (kill1 D t) u):aB cx D u:=by
 cases u with
 |v x=>trivial
 |any=>trivial
 |s k d z r =>
  cases k with
  |own=>trivial
  |far=>exact h
  |lent e f g =>
   rcases h with h|⟨v,b,a,c⟩
   ·exact .inl (by rw[←eK D t];exact h)
   ·exact .inr ⟨v,ky b a,a,c⟩
theorem uj {cx:Cx}{D:DSt}{t:Nat}{s:DSl}(h:bZ cx (kill1 D t) s):bZ cx D s:=by
 cases s with
 |im k b ts off =>
  cases k with
  |own=>exact h
  |far=>exact h
  |lent g i j =>
   rcases h with h|⟨v,c,a,d⟩
   ·exact .inl (by rw[←eK D t];exact h)
   ·exact .inr ⟨v,ky c a,a,d⟩
 |fni f caps=>exact h
 |_=>exact fun u e=>uk (h u e)
theorem Tells.kill {cx:Cx}{w:World}{s:DSl}{y:Value}(l:List Nat):∀{D:DSt},Tells cx (killAll l D) w s y→Tells cx D w s y:=by
 induction l with
 |nil=>intro D h;exact h
 |cons a l c =>intro D h;simp only[Am.killAll,Cw]at h;have b:=c h;exact⟨xP b.val,b.mem,uj b.kind,b.noown⟩
section
variable  {δ β : Type}
def T.bare:T δ→Bool| .v _=>true| .any=>true|_=>false
def dO (D:St δ β)(h c:Nat):Bool:=match D[h]? with|some (.box _ ts)=>(match ts[c]? with|some t=>t.bare|none=>false)|_=>false
def dv (D:St δ β)(h c:Nat)(t:T δ):St δ β:=match D[h]? with|some (.box b ts)=>D.set h (.box b (ts.set c t))|_=>D
def any1 (D:St δ β)(p:Nat×Nat):St δ β:=if dO D p.1 p.2=true then dv D p.1 p.2 .any else D
def anyC (H:List (Nat×Nat))(D:St δ β):St δ β:=H.foldl any1 D
def hid (H:List (Nat×Nat))(l:List Nat)(D:St δ β):St δ β:=killAll l (anyC H D)
theorem oU {t:T δ}(h:t.bare=true):t.isOwn=false:=by cases t<;>first|rfl|cases h
theorem fJ (D:St δ β)(h c:Nat)(t:T δ):(dv D h c t).length=D.length:=by unfold dv;split<;>simp
theorem uq (D:St δ β)(p:Nat×Nat):(any1 D p).length=D.length:=by unfold any1;split<;>simp[fJ]
theorem k9 (H:List (Nat×Nat)):∀(D:St δ β),(anyC H D).length=D.length:=by
 induction H with
 |nil=>intro D;rfl
 |cons p H a=>intro D;exact(a _).trans (uq D p)
theorem pV (H:List (Nat×Nat))(l:List Nat)(D:St δ β):(hid H l D).length=D.length:=(qG l _).trans (k9 H D)
theorem dX {D:St δ β}{h c:Nat}(e:dO D h c=true):∃b ts t,D[h]?=some (.box b ts)∧ts[c]?=some t∧t.bare=true:=by
 unfold dO at e;split at e
 ·rename_i b ts hb;split at e
  ·rename_i t a;exact⟨b,ts,t,hb,a,e⟩
  ·cases e
 ·cases e
theorem qO {D:St δ β}{h c:Nat}{b:β}{ts:List (T δ)}(e:D[h]?=some (.box b ts))(t:T δ):dv D h c t=D.set h (.box b (ts.set c t)):=by unfold dv;rw[e]
theorem dL {D:St δ β}{h c q:Nat}{t:T δ}(a:q≠h):(dv D h c t)[q]?=D[q]?:=by
 unfold dv;split
 ·exact B3 (fun e=>a e.symm)
 ·rfl
theorem gw {D:St δ β}{h c:Nat}{t:T δ}{b:β}{ts:List (T δ)}(e:D[h]?=some (.box b ts)):(dv D h c t)[h]?=some (.box b (ts.set c t)):=by
 rw[qO e,B1];rcases BY h D.length with g|g
 ·exact g
 ·rw[BV g]at e;cases e
end
theorem yW (t:DT):t.er.bare=t.bare:=by
 cases t with
 |v x=>rfl
 |any=>rfl
 |s k d z r=>rw[ak];rfl
theorem sS (D:DSt)(h c:Nat):dO (erD D) h c=dO D h c:=by
 unfold dO;rw[aF];cases D[h]? with
 |none=>rfl
 |some s =>
  cases s with
  |box b ts =>
   simp only[BQ,Sl.er,erL,B6];cases ts[c]? with
   |none=>rfl
   |some t=>exact yW t
  |_=>rfl
theorem vm (D:DSt)(h c:Nat)(t:DT):erD (dv D h c t)=dv (erD D) h c t.er:=by
 unfold dv;rw[aF];cases D[h]? with
 |none=>rfl
 |some s =>
  cases s with
  |box b ts =>simp only[BQ,Sl.er];rw[cp];simp[Sl.er,erL,Dv]
  |_=>rfl
theorem yS (D:DSt)(p:Nat×Nat):erD (any1 D p)=any1 (erD D) p:=by
 unfold any1;rw[sS];split
 ·exact vm D p.1 p.2 .any
 ·rfl
theorem yT (H:List (Nat×Nat)):∀(D:DSt),erD (anyC H D)=anyC H (erD D):=by
 induction H with
 |nil=>intro D;rfl
 |cons p H a=>intro D;simp only[anyC,Cw];rw[←yS];exact a _
theorem nc (H:List (Nat×Nat))(l:List Nat)(D:DSt):erD (hid H l D)=hid H l (erD D):=by unfold hid;rw[iT,yT]
theorem om {D:DSt}{h c:Nat}(e:dO D h c=true){t:DT}(k:t.isOwn=false){f a:Nat}{u:DT}(d:u.isOwn=true):ah (dv D h c t) f a=some u↔ah D f a=some u:=by
 obtain⟨b,ts,v,j,i,l⟩:=dX e;unfold ah;by_cases hh:f=h
 ·subst hh;rw[gw j,j];simp only[BU,ap];by_cases hc:a=c
  ·subst hc;have m:a<ts.length:=by
    rcases BY a ts.length with g|g
    ·exact g
    ·rw[BV g]at i;cases i
   rw[B1 m,i];constructor
   ·intro q;cases q;rw[k]at d;cases d
   ·intro q;cases q;rw[oU l]at d;cases d
  ·rw[B3 (fun q=>hc q.symm)]
 ·rw[dL hh]
theorem sH {D:DSt}{h c:Nat}{t:DT}{q:Nat}{b:Nat×Nat}:(∃ts,(dv D h c t)[q]?=some (.box b ts))↔∃ts,D[q]?=some (.box b ts):=by
 by_cases a:q=h
 ·subst a;constructor
  ·rintro⟨ts,e⟩;unfold dv at e;split at e
   ·rename_i d ts' hb;rw[B1 (by
     rcases BY q D.length with g|g
     ·exact g
     ·rw[BV g]at hb;cases hb)]at e
    cases e;exact⟨_,hb⟩
   ·exact⟨ts,e⟩
  ·rintro⟨ts,e⟩;exact⟨_,gw e⟩
 ·rw[dL a]
theorem Inv.any1 {cx:Cx}{D:DSt}{P:List (DT×Value)}{tm:Array Value}{w:World}(I:Inv cx D P tm w)(p:Nat×Nat):Inv cx (any1 D p) P tm w:=by
 unfold Am.any1;split
 case isFalse=>exact I
 rename_i e;obtain⟨h,c⟩:=p;simp only at e ⊢;obtain⟨b,ts,v,h1,l,A⟩:=dX e;have B:c<ts.length:=by
  rcases BY c ts.length with g|g
  ·exact g
  ·rw[BV g]at l;cases l
 have a:∀C F u,ah D C F=some u→u.isOwn=true→ah (dv D h c .any) C F=some u:=fun C F u J K=>(om e rfl K).2 J
 have n:∀(q:Nat)(b:Nat×Nat)(ts:List DT),D[q]?=some (.box b ts)→∃ts',(dv D h c .any)[q]?=some (.box b ts'):=fun q b ts hq=>sH.2 ⟨ts,hq⟩
 have L:=qO (c:=c) h1 .any;have o:=BR h1;have d:∀{q:Nat}{s:DSl},(dv D h c .any)[q]?=some s→(q=h∧s = .box b (ts.set c .any))∨(q≠h∧D[q]?=some s):=fun {q s} hs=>by
  by_cases hq:q=h
  ·subst hq;rw[gw h1]at hs;cases hs;exact .inl ⟨rfl,rfl⟩
  ·rw[dL hq]at hs;exact .inr ⟨hq,hs⟩
 have i:∀u∈ts.set c .any,u∈ts∨u = .any:=fun u m=>(CK m)
 have k:∀x,az (dv D h c .any) x=az D x:=fun x=>by
  have M:=aE ownBl (.box b (ts.set c .any):DSl) x D h _ h1;have S:=aE ownR (.any:DT) x ts c _ l;rw[L];unfold az;have U:(ownR v).count x=0:=by rw[bW (oU A)];rfl
  have V:(ownR (.any:DT)).count x=0:=rfl;simp only[ownBl,CU]at M;omega
 refine⟨by rw[fJ];exact I.size,fun q s hs=>?_,fun s hs=>?_,fun s hs=>?_,I.pend,fun x=>by rw[k];exact I.once x,fun x G=>I.bnd x (by rw[k]at G;exact G),I.frame⟩
 ·rcases d hs with⟨rfl,rfl⟩|⟨_,hs⟩
  ·exact I.val _ _ h1
  ·exact nQ (fun _ _ _ _ _ _ ⟨u,h1,l,A⟩=>⟨u,a _ _ _ h1 l,l,A⟩) n (I.val q s hs)
 ·obtain⟨q,hq⟩:=BX hs;rcases d hq with⟨rfl,rfl⟩|⟨_,hq⟩
  ·have t:=I.mem _ o;refine⟨fun u m=>?_,fun u m H=>?_,?_,?_⟩
   ·rcases i u m with g|rfl
    ·exact t.1 u g
    ·exact .any
   ·rcases i u m with g|rfl
    ·exact t.2.1 u g H
    ·cases H
   ·obtain⟨cs,f,g,N,l2⟩:=t.2.2.1;refine⟨cs,f,g,N,fun j u z=>?_⟩;by_cases r:j=c
    ·subst r;rw[B1 B]at z;cases z;obtain⟨y,O,Q⟩:=l2 j v l;exact⟨y,O,Q.one⟩
    ·rw[B3 (fun e=>r e.symm)]at z;exact l2 j u z
   ·have:=t.2.2.2;rw[Dm];exact this
  ·exact I.mem s (BR hq)
 ·obtain⟨q,hq⟩:=BX hs;rcases d hq with⟨rfl,rfl⟩|⟨_,hq⟩
  ·have R:=I.kind _ o;intro u m;rcases i u m with g|rfl
   ·exact l9 (fJ D _ _ _) a (R u g)
   ·trivial
  ·exact j6 (fJ D _ _ _) a (I.kind s (BR hq))
theorem Inv.anyC {cx:Cx}{P:List (DT×Value)}{tm:Array Value}{w:World}(H:List (Nat×Nat)):∀{D:DSt},Inv cx D P tm w→Inv cx (anyC H D) P tm w:=by
 induction H with
 |nil=>intro D I;exact I
 |cons p H a=>intro D I;simp only[Am.anyC,Cw];exact a (I.any1 p)
theorem Tells.any1 {cx:Cx}{D:DSt}{w:World}{s:DSl}{y:Value}{p:Nat×Nat}(h:Tells cx (any1 D p) w s y):Tells cx D w s y:=by
 unfold Am.any1 at h;split at h
 case isFalse=>exact h
 rename_i e;have a:∀c d u,ah (dv D p.1 p.2 .any) c d=some u→u.isOwn=true→ah D c d=some u:=fun c d u g i=>(om e rfl i).1 g
 exact⟨nQ (fun _ _ _ _ _ _ ⟨u,j,f,k⟩=>⟨u,a _ _ _ j f,f,k⟩) (fun q b ts l=>sH.1 ⟨ts,l⟩) h.val,h.mem,j6 (fJ D _ _ _).symm a h.kind,h.noown⟩
theorem Tells.anyC {cx:Cx}{w:World}{s:DSl}{y:Value}(H:List (Nat×Nat)):∀{D:DSt},Tells cx (anyC H D) w s y→Tells cx D w s y:=by
 induction H with
 |nil=>intro D h;exact h
 |cons p H a=>intro D h;simp only[Am.anyC,Cw]at h;exact(a h).any1
theorem oT {δ β:Type}:∀(H:List (Nat×Nat)){D:St δ β}{q:Nat},(∀p∈H,p.1≠q)→(anyC H D)[q]?=D[q]?
 |[],D,q,_=>rfl
 |p::H,D,q,h=>by
  simp only[anyC,Cw];refine(oT H (D:=any1 D p) fun a b=>h a (by simp[b])).trans ?_;unfold any1;split
  ·exact dL fun e=>h p (by simp) e.symm
  ·rfl
open Classical in
theorem m5 {δ β:Type}{h:Nat}{b:β}:∀(H:List (Nat×Nat)){D:St δ β}{tt:List (T δ)},D[h]?=some (.box b tt) →
  ∃k,(anyC H D)[h]?=some (.box b k)∧∀i,k[i]?=(tt[i]?).map fun t=>if(h,i)∈H∧t.bare=true then .any else t
 |[],D,tt,e=>⟨tt,e,fun i=>by simp⟩
 |p::H,D,tt,e=>by
  simp only[anyC,Cw];obtain⟨m,a,r⟩:∃m,(any1 D p)[h]?=some (.box b m)∧∀i,m[i]?=(tt[i]?).map fun t=>if(h,i)=p∧t.bare=true then .any else t:=by
   unfold any1;by_cases l:p.1=h
   ·obtain⟨z,c⟩:=p;simp only at l;subst l;split
    ·rename_i hc;obtain⟨A,ts,t,o,n,s⟩:=dX hc;rw[e]at o;cases o;refine⟨_,gw e,fun i=>?_⟩;by_cases hi:i=c
     ·subst hi;have v:i<tt.length:=by
       rcases BY i tt.length with g|g
       ·exact g
       ·rw[BV g]at n;cases n
      rw[B1 v,n];simp[s]
     ·rw[B3 (fun q=>hi q.symm)];cases tt[i]? with
      |none=>rfl
      |some u=>simp[hi]
    ·rename_i hc;refine⟨tt,e,fun i=>?_⟩;cases hi:tt[i]? with
     |none=>rfl
     |some u =>
      by_cases d:i=c
      ·subst d;have:u.bare=false:=by
        cases w:u.bare with
        |false=>rfl
        |true=>exact absurd (by simp only[dO,e,hi];exact w) hc
       simp[this]
      ·simp[d]
   ·refine⟨tt,?_,fun i=>?_⟩
    ·split
     ·rw[dL (fun q=>l q.symm)];exact e
     ·exact e
    ·cases tt[i]? with
     |none=>rfl
     |some u =>
      have:¬(h,i)=p:=fun q=>l (by rw[←q])
      simp[this]
  obtain⟨k,x,y⟩:=m5 H a;refine⟨k,x,fun i=>?_⟩;rw[y i,r i];cases tt[i]? with
  |none=>rfl
  |some u =>
   simp only[BQ,Cq,Ck];by_cases f:(h,i)=p∧u.bare=true
   ·have a:(if(h,i)=p∧u.bare=true then(T.any:T δ)else u)= .any:=BZ f;rw[a,BZ (show((h,i)=p∨(h,i)∈H)∧u.bare=true from⟨.inl f.1,f.2⟩)];split<;>rfl
   ·have a:(if(h,i)=p∧u.bare=true then(T.any:T δ)else u)=u:=Cd f;rw[a];by_cases j:(h,i)∈H∧u.bare=true
    ·rw[BZ j,BZ (show((h,i)=p∨(h,i)∈H)∧u.bare=true from⟨.inr j.1,j.2⟩)]
    ·rw[Cd j,Cd (show ¬(((h,i)=p∨(h,i)∈H)∧u.bare=true)from fun q=>q.1.elim (fun g=>f ⟨g,q.2⟩) fun g=>j ⟨g,q.2⟩)]
theorem Inv.hid {cx:Cx}{D:DSt}{tm:Array Value}{w:World}(I:Inv cx D [] tm w)(H:List (Nat×Nat))(l:List Nat):Inv cx (hid H l D) [] tm w:=(I.anyC H).killAll l
theorem Tells.hid {cx:Cx}{D:DSt}{w:World}{s:DSl}{y:Value}(H:List (Nat×Nat))(l:List Nat)(h:Tells cx (hid H l D) w s y):Tells cx D w s y:=(h.kill l).anyC H
theorem la {t:Nat}{s:DSl}(h:¬bd t s):s.clean t=s:=by
 have o:∀u:DT,¬(∃c g d z r,u = .s (.lent t c g) d z r)→u.dead (atH t)=u:=by
  intro u j;cases u with
  |v x=>rfl
  |any=>rfl
  |s k d z r =>
   cases k with
   |own=>rfl
   |far=>rfl
   |lent a l g =>
    have m:atH t a l=false:=by
     cases e:atH t a l with
     |false=>rfl
     |true =>
      have e:a=t:=by simpa[atH]using e
      subst e;exact absurd ⟨l,g,d,z,r,rfl⟩ j
    simp[T.dead,m]
 have n:∀us:List DT,¬(∃u∈us,∃c g d z r,u = .s (.lent t c g) d z r)→us.map (T.dead (atH t))=us:=by
  intro us j
  conv=>rhs;rw[←Dl us]
  exact Cl fun u p=>o u fun⟨c,g,d,z,r,e⟩=>j ⟨u,p,c,g,d,z,r,e⟩
 unfold Sl.clean;cases s with
 |any=>rfl
 |one u=>simp only[Sl.dead,Sl.gone];rw[o u h]
 |agg ts=>simp only[Sl.dead,Sl.gone];rw[n ts h]
 |box b ts=>simp only[Sl.dead,Sl.gone];rw[n ts h]
 |al a c st lo len =>have:¬a=t:=h;simp[Sl.dead,Sl.gone,qH,this]
 |pe a c st i off =>have:¬a=t:=h;simp[Sl.dead,Sl.gone,qH,this]
 |pb a off =>have:¬a=t:=h;simp[Sl.dead,Sl.gone,this]
 |im k b ts off =>
  cases k with
  |own=>rfl
  |far=>rfl
  |lent a l g =>have:¬a=t:=h;simp[Sl.dead,Sl.gone,atH,this]
 |fni f caps=>rfl
 |clo f hs =>have:¬t∈hs:=h;simp[Sl.dead,Sl.gone,this]
 |tup rs =>
  simp only[Sl.dead,Sl.gone];congr 1
  conv=>rhs;rw[←Dl rs]
  refine Cl fun r q=>?_
  rw[n r.2 fun⟨u,j,c,g,d,z,w,e⟩=>h ⟨r,q,u,j,c,g,d,z,w,e⟩];rfl
theorem gX {D:DSt}{t:Nat}{s:DSl}(b:∀s'∈D,¬bd t s')(hs:¬bd t s):av D (some t) s=D.set t s:=by
 simp only[av];rw[la hs];have:(St.dead (atH t) (qH t) D).map (Sl.gone t)=D:=by
  simp only[St.dead,Ct]
  conv=>rhs;rw[←Dl D]
  exact Cl fun s' a=>la (b s' a)
 unfold au;rw[this,List.set_set]
def aC (ops:Array Oper)(j:Nat):List Nat :=
 match ops[j]? with
 |some o=>(o.after.toList.filter (Region.binds .any)).map (·.on)
 |none=>[]
def a9 (ops:Array Oper)(m:Nat):List Nat:=(List.range m).filterMap fun i=>(ops[i]?).bind (·.dst)
section
variable  {P : Program}{tab : Tab}
theorem rX (ok:ax P tab){cx:Cx}{D D':DSt}{a:Act}{w:World}(I:Inv cx D [] a.tmps w){dst:Option Nat}{t:Nat}{l c:Operand}
  (e:cd mkD (frD w) tab D dst t l c=some D'):∃y w' d V z rows,dst=some d∧D'=av D (some d) (.one (.s .own V z rows))∧(Instr.makeSlice t (a.eval l) (a.eval c)).run P w = .ok y w'∧Grew w w'∧wG w w' (.s .own V z rows) y:=by
 unfold cd at e;split at e
 case h_2=>cases e
 rename_i sz W ze o d n k F X H;split at e
 case h_2=>cases e
 rename_i m J;split at e
 case isFalse=>cases e
 rename_i hc;split at e
 case isFalse=>cases e
 rename_i Y;cases e;obtain⟨hd,Z,K⟩:=hc;obtain⟨n1,n2,n3,n4⟩:=Y;have hu:=cL (Tab.ok ok F) rfl;obtain⟨i,d',z,g1,F0,L,g4,g5,M,g7,g3⟩:=cO (Tab.ok ok J);have G:=em (P:=P) (t:=o) (w:=w) (cx:=cx) (D:=D) (ys:=z.cells.toList) g3;rw[←M]at G;have B:z.cells.size=m.size:=by rw[←K,M];simp[bG]
 have A:∀t∈m.zero.map (T.inj nilD),t.fine=true:=by intro t C;rw[M]at C;simp only[B7,bG,CS]at C;obtain⟨u,⟨j,hj,rfl⟩,rfl⟩:=C;unfold zT;split<;>rfl
 obtain⟨kl,N⟩:=I.opInt X;obtain⟨kc,O⟩:=I.opInt H;have f:=run_make w t o i z hu g1 L kl kc n k n1 n2 (by rw[g5];exact n3) (by omega);rw[←N, ←O]at f;have R:=RowsAre.init G.v (by omega) k.toNat;have Q:(madeCells z.cells (k.toNat*i.size))=((Array.range (k.toNat*z.cells.size)).map (fun i=>z.cells[i % z.cells.size]!)):=by unfold madeCells;rw[g4,B]
 rw[Q]at f;rw[B]at R f;generalize p:(Array.range (k.toNat*m.size)).map (fun i=>z.cells[i % m.size]!)=cells at R f;have g:=Grew.alloc w (.cells cells o);have q:(w.alloc (.cells cells o)).heap[w.heap.size]?=some (.cells cells o (0,0)):=by show(w.heap.push _)[w.heap.size]?=_;simp
 have F1:n.toNat≤k.toNat:=by omega
 have r:∀(i:Nat)(row:List DT),(List.replicate n.toNat (m.zero.map (T.inj nilD)))[i]?=some row→(List.replicate k.toNat (m.zero.map (T.inj nilD)))[i]?=some row:=by
  intro i row h;rw[Ee]at h ⊢;split at h
  ·rw[BZ (by omega)];exact h
  ·cases h
 have S:∀(i:Nat)(row:List DT)(j:Nat)(t:DT),(List.replicate n.toNat (m.zero.map (T.inj nilD)))[i]?=some row→row[j]?=some t→oS w t:=fun i row j t hi hj=>by have:=CN (BR hi);subst this;exact G.bare A t (BR hj)
 have U:cells.size=k.toNat*m.size:=by rw[←p];simp
 have hH:Holds (w.alloc (.cells cells o)) (.s .own ((frD w).row k.toNat) m.size (List.replicate n.toNat (m.zero.map (T.inj nilD)))):=by refine .s _ _ _ _ rfl rfl _ o (0,0) q (by simp[frD];omega) (fun i row h=>R.row i row (r i row h)) (fun i row j t hi hj=>?_) (fun i row j t hi hj=>(S i row j t hi hj).holds.frame fun b _ hb=>g.same b hb);obtain⟨y,y1,y2⟩:=R.val i row j t (r i row hi) hj;exact⟨y,by simpa[frD]using y1,y2⟩
 have hO:OwnT (w.alloc (.cells cells o)) (.s .own ((frD w).row k.toNat) m.size (List.replicate n.toNat (m.zero.map (T.inj nilD)))):=by refine .s _ _ _ rfl rfl _ o 0 0 q (by simp[frD];omega) (by simp[frD,U]) (fun x _ _ h=>by omega) (fun i row j t hi hj=>?_);have:=S i row j t hi hj;exact(jE this.fine this.own).frame fun b _ hb=>g.same b hb
 have s:(List.replicate n.toNat (m.zero.map (T.inj mkD.nil))).flatMap (fun x=>x.flatMap Am.bl)=[]:=by rw[Ca];intro row hr;rw[Ca];intro t C;obtain⟨i,hi⟩:=BX hr;obtain⟨j,hj⟩:=BX C;exact(S i row j t hi hj).bl
 refine⟨_,_,d,(frD w).row k.toNat,m.size,_,rfl,rfl,f,g,⟨by simp[VT,Dec.addr,frD],hH,hO,?_,fun b hb=>?_⟩⟩
 ·intro b;rw[bv,s];simp only[frD,Ch,CD,Cp];rw[List.count_singleton];split<;>omega
 ·rw[bv,s]at hb;simp[frD]at hb;subst hb;exact⟨Cz _,by simp⟩
end
def kA (M:US)(x:Operand)(i:Nat):Option (Sl Unit Unit):=
 match x with
 | .tmp q =>
  match M[q]? with
  |some (.tup rs)=>
   match rs[i]? with
   |some (false,[.v y])=>some (.one (.v y))
   |_=>none
  |_=>none
 |_=>none
theorem uD {M:US}{x:Operand}{i:Nat}{s:Sl Unit Unit}(h:kA M x i=some s):∃q rs y,x = .tmp q∧M[q]?=some (.tup rs)∧rs[i]?=some (false,[.v y])∧s = .one (.v y):=by
 unfold kA at h;split at h
 case h_2=>cases h
 rename_i q;split at h
 case h_2=>cases h
 rename_i rs a;split at h
 case h_2=>cases h
 rename_i y hi;cases h;exact⟨q,rs,y,rfl,a,hi,rfl⟩
theorem rM {P:Program}{cx:Cx}{D:DSt}{a:Act}{w:World}(I:Inv cx D [] a.tmps w){o:Oper}{x:Operand}{i:Nat}(j:o.op = .extract x i){s:Sl Unit Unit}(e:kA (erD D) x i=some s):
  ∃y,s = .one (.v y)∧(execOp a.eval o).run P w = .ok (.value y) w∧Tells cx D w (.one (.v y)) y:=by
 obtain⟨q,rs,y,rfl,u,hi,rfl⟩:=uD e;rw[aF,BS]at u;obtain⟨A,J,B⟩:=u;obtain⟨b,rfl,rfl⟩:∃b,A = .tup b∧rs=b.map fun r=>(r.1,erL r.2):=by
  cases A with
  |tup b=>exact⟨b,rfl,by simpa[Sl.er]using B.symm⟩
  |_=>simp[Sl.er]at B
 rw[B6,BS]at hi;obtain⟨⟨g,ts⟩,l,c⟩:=hi;simp only[DC]at c;obtain⟨rfl,c⟩:=c;have K:ts=[.v y]:=by
  match ts,c with
  |[],c=>simp at c
  |[t],c =>
   simp only[Cc,Cu,CX,Du]at c;cases t with
   |v x=>rw[ca]at c;cases c;rfl
   |any=>cases c
   |s k d z r=>rw[ak]at c;cases c
  |t::N::r,c=>simp at c
 subst K;obtain⟨h,L,C,f⟩:=I.val q _ J;have M:i<b.length:=by
  rcases BY i b.length with g|g
  ·exact g
  ·rw[BV g]at l;cases l
 have F:=f i _ h.toList[i] l (BW (by omega));simp only[VPart,Ch,CD]at F;obtain⟨t',G,m⟩:=F;simp only[CX,Du]at G;subst G;have n:a.eval (.tmp q)= .tuple h:=L;have hv:h[i]?=some y:=by have p:h.toList[i]=y:=m.1;rw[←p];simp
 refine⟨y,rfl,?_,Tells.one (t := .v y) ⟨rfl,by have p:h.toList[i]=y:=m.1;have H:=m.2;rw[p]at H;exact H⟩ (.v _) trivial rfl⟩;simp[execOp,j,n,Instr.extract,hv]
def stepV (tab:Tab)(fns:FuncId→Option Func)(C:Sem1)(M:US)(o:Oper):Option (Sl Unit Unit):=
 match callTo M o with
 |some (f,xs,caps)=>if(fns f).isSome∧tab.io.lookup f=none then(argsW mkU tab f M xs).bind fun as=>(C f (as++ims caps)).bind fun rs=>if kJ false rs=true then jB mkU rs else none else none
 |none =>
  match o.op with
  | .buildSlice t len a =>
   match o.dst with
   |some d=>(b9 mkU frU tab M (some d) t len a.toList).bind fun U=>match U[d]? with|some (.one u)=>if u.isOwn then some (.one u)else none|_=>none
   |none=>none
  | .makeSlice t l c =>
   match o.dst with
   |some d=>(cd mkU frU tab M (some d) t l c).bind fun U=>match U[d]? with|some (.one u)=>if u.isOwn then some (.one u)else none|_=>none
   |none=>none
  | .alloc b=>(tab.ti b).map fun ti=>.box () (ti.zero.map (T.inj ()))
  | .extract x i=>kA M x i
  | .move x=>match dV M x with|some rs=>some (.tup rs)|none=>aR mkU tab M (.move x)
  | .build b a=>gB mkU tab M b a.toList
  |op=>aR mkU tab M op
def tf (ops:Array Oper)(M:US)(o:Oper)(K:Option (Sl Unit Unit)):Option (Sl Unit Unit):=
 match o.guard with
 |none=>K
 |some (j,a)=>
  match((ops[j]?).bind (·.dst)).bind (yieldAt M)with
  |some b=>if b=some a then K else some (.tup [])
  |none=>none
theorem tT {rd:bA}(hf:∀r∈rd,∀t∈r.2,t.fine=true){s:DSl}(h:jB mkD rd=some s)(t:Nat):¬bd t s:=by
 have f:∀r∈rd,∀u∈r.2,¬ ∃c j d z r,u=(.s (.lent t c j) d z r:DT):=by rintro r k u hu ⟨c,j,d,z,l,rfl⟩;exact absurd (hf r k _ hu) (by simp[T.fine])
 unfold jB at h;split at h
 ·rename_i r;split at h
  ·rename_i b row a;cases h;rintro⟨u,hu,c,j,d,z,l,rfl⟩;unfold mv at a;split at a
   case h_2=>cases a
   unfold kq at a;split at a
   case h_2=>cases a
   split at a
   case isFalse=>cases a
   rename_i i;cases a;rcases iE hu with hu|hu
   ·exact absurd (B2.1 i.1 _ hu) (by simp[T.fine])
   ·exact absurd (B2.1 i.2 _ hu) (by simp[T.isFar])
  obtain⟨g,ts⟩:=r;cases g with
  |true=>cases h;exact fun⟨u,hu,e⟩=>f _ (Cj _) u hu e
  |false =>
   match ts,h with
   |[u],h=>cases h;exact fun e=>f _ (Cj _) u (Cj _) e
 ·cases h;exact fun⟨r,k,u,hu,e⟩=>f r k u hu e
theorem Inv.stepV {P:Program}{tab:Tab}(ok:ax P tab){fns:FuncId→Option Func}(hf:dB P fns){B:Base}{C:Sem1}{cx:Cx}(hC:cZ P B C cx){D:DSt}{a:Act}{w:World}(I:Inv cx D [] a.tmps w)
  {H:List (Nat×Nat)} {l:List Nat} {o:Oper} {t:Nat} (hd:o.dst=some t) (Z:D[t]?=some .any) {s:Sl Unit Unit} (e:Am.stepV tab fns C (Am.hid H l (erD D)) o=some s) {K:Act→World→Prop} {Q:Exit→Act→World→Prop}
  (hK:∀D' a' w',erD D'=(erD D).set t s→(∃y,a'=a.put o.dst y)→Inv cx D' [] a'.tmps w'→K a' w'):o.wp P a w K Q:=by
 have A:t<D.length:=by
  rcases BY t D.length with g|g
  ·exact g
  ·rw[BV g]at Z;cases Z
 rw[←nc]at e;have IM:=I.hid H l;unfold Am.stepV at e;split at e
 ·rename_i f xs caps hc;split at e
  case isFalse=>cases e
  rename_i F6;obtain⟨fn,F7⟩:=Dw.1 F6.1;obtain⟨p1,p2,p3⟩:=hf f fn F7;rw[BT]at e;obtain⟨as,G,e⟩:=e;rw[BT]at e;obtain⟨rs,M,S⟩:=e;rw[sP]at G;obtain⟨ad,F8,rfl⟩:=BS.1 G;obtain⟨hA,hN⟩:=Inv.argsW (Y:=noY) (fun y _ s e=>IM.argOf (Out.nil cx _) e) F8;split at S
  case isFalse=>cases S
  rename_i hB;obtain⟨c,x,V,m,F3,rfl,rfl,F9,Fa⟩:=IM.callTo hc;have Fb:=hA.ims F9;have Fc:∀s∈ad++ims V,s.isHome=false:=fun s hs=>(Cm.1 hs).elim (hN s) (tw s)
  have F0:=hC.1 f _ rs M w [] noY (ad++ims V) _ (hC.2.at I (Out.nil cx D)) (by rw[Dh,wU]) Fb;have J:=ru (w:=w) m F3 Fa p1 p2 p3;unfold Oper.wp;rw[J];refine F0.mono ?_;rintro e w' ⟨v,od,rd,rfl,g,n,hO,R⟩;have:=OutsOk.none Fc hO;subst this;rw[qx]at n;subst n;rw[s5]at S;obtain⟨p,F4,rfl⟩:=BS.1 S;have L:Am.putRet mkD D o.dst rd=some (av D (some t) p):=by rw[hd];simp only[Am.putRet];rw[BZ A,F4];rfl
  have Fe:ey cx rd:=pI (by simpa[kJ]using hB) cx;have Ff:∀r∈rd,∀t∈r.2,t.fine=true:=fun r n t ht=>by
   have G:((erR rd).all fun r=>r.2.all T.fine)=true:=by simpa[kJ]using hB
   have G:=B2.1 G (r.1,erL r.2) (B7.2 ⟨r,n,rfl⟩);rw[show(erL r.2).all T.fine=r.2.all T.fine from bT T.fine T.fine lI r.2]at G;exact B2.1 G t ht
  have F:=I.putRet (a:=a) g.grew R Fe L;have N:av D (some t) p=D.set t p:=gX (fun s' q=>by obtain⟨u,k⟩:=BX q;exact I.any_refs Z (I.val u s' k) (I.kind s' q)) (tT Ff F4 t);rw[N]at F;exact hK _ _ _ (cp D t p) ⟨_,rfl⟩ F
 ·split at e
  ·rename_i bt len F1 m;rw[hd]at e;simp only at e;rw[BT]at e;obtain⟨U,k1,k2⟩:=e;rw[kR w]at k1;obtain⟨Fg,k3,rfl⟩:=BS.1 k1;obtain⟨y,w',d',O,z,rows,j1,j2,j3,j4,W⟩:=qv ok IM k3;cases j1;subst j2;have X:(erD (av (Am.hid H l D) (some t) (.one (.s .own O z rows))))[t]?=some (.one (.s .own () z (rows.map erL))):=by
    rw[aF];have hl:t<(au t (Am.hid H l D)).length:=by simp[au,St.dead,pV];exact A
    simp only[av];rw[B1 hl];simp[Sl.clean,Sl.dead,Sl.gone,T.dead,Sl.er,ak]
   rw[X]at k2;simp only[T.isOwn,CI]at k2;cases k2;have R:RetOk w [] noY w' [] [] [(false,[(.s .own O z rows:DT)])] y:=by
    refine⟨.inl ⟨_,rfl,?_⟩,fun r n u k=>?_,fun r n u k=>?_,fun r n u k _=>?_,fun b=>?_,fun b hb=>?_⟩
    ·simp only[VPart,Ch,CD];exact⟨_,rfl,W.val⟩
    ·rw[Co,B4]at n;subst n;rw[B4]at k;subst k;exact .inl rfl
    ·rw[Co,B4]at n;subst n;rw[B4]at k;subst k;exact W.holds
    ·rw[Co,B4]at n;subst n;rw[B4]at k;subst k;exact W.own
    ·simpa[ownR,T.isOwn,aJ]using W.once b
    ·have:=W.new b (by simpa[ownR,T.isOwn,aJ]using hb);exact⟨.inl this.1,this.2⟩
   have L:Am.putRet mkD D o.dst [(false,[(.s .own O z rows:DT)])]=some (av D (some t) (.one (.s .own O z rows))):=by rw[hd];simp only[Am.putRet];rw[BZ A];rfl
   have F:=I.putRet (a:=a) j4 R (fun r n u k=>by rw[B4]at n;subst n;rw[B4]at k;subst k;exact .inl rfl) L;have N:av D (some t) (.one (.s .own O z rows))=D.set t (.one (.s .own O z rows)):=gX (fun s' q=>by obtain⟨u,k⟩:=BX q;exact I.any_refs Z (I.val u s' k) (I.kind s' q)) (fun⟨c,fl,d,z,r,h⟩=>by cases h);rw[N]at F;have J:(execOp a.eval o).run P w = .ok (.value y) w':=by simp[execOp,m,j3]
   unfold Oper.wp;rw[J];exact hK _ _ _ (by rw[cp];simp[Sl.er,ak]) ⟨_,rfl⟩ F
  ·rename_i bt lo hi m;rw[hd]at e;simp only at e;rw[BT]at e;obtain⟨U,k1,k2⟩:=e;rw[lL w]at k1;obtain⟨Fg,k3,rfl⟩:=BS.1 k1;obtain⟨y,w',d',O,z,rows,j1,j2,j3,j4,W⟩:=rX ok IM k3;cases j1;subst j2;have X:(erD (av (Am.hid H l D) (some t) (.one (.s .own O z rows))))[t]?=some (.one (.s .own () z (rows.map erL))):=by
    rw[aF];have hl:t<(au t (Am.hid H l D)).length:=by simp[au,St.dead,pV];exact A
    simp only[av];rw[B1 hl];simp[Sl.clean,Sl.dead,Sl.gone,T.dead,Sl.er,ak]
   rw[X]at k2;simp only[T.isOwn,CI]at k2;cases k2;have R:RetOk w [] noY w' [] [] [(false,[(.s .own O z rows:DT)])] y:=by
    refine⟨.inl ⟨_,rfl,?_⟩,fun r n u k=>?_,fun r n u k=>?_,fun r n u k _=>?_,fun b=>?_,fun b hb=>?_⟩
    ·simp only[VPart,Ch,CD];exact⟨_,rfl,W.val⟩
    ·rw[Co,B4]at n;subst n;rw[B4]at k;subst k;exact .inl rfl
    ·rw[Co,B4]at n;subst n;rw[B4]at k;subst k;exact W.holds
    ·rw[Co,B4]at n;subst n;rw[B4]at k;subst k;exact W.own
    ·simpa[ownR,T.isOwn,aJ]using W.once b
    ·have:=W.new b (by simpa[ownR,T.isOwn,aJ]using hb);exact⟨.inl this.1,this.2⟩
   have L:Am.putRet mkD D o.dst [(false,[(.s .own O z rows:DT)])]=some (av D (some t) (.one (.s .own O z rows))):=by rw[hd];simp only[Am.putRet];rw[BZ A];rfl
   have F:=I.putRet (a:=a) j4 R (fun r n u k=>by rw[B4]at n;subst n;rw[B4]at k;subst k;exact .inl rfl) L;have N:av D (some t) (.one (.s .own O z rows))=D.set t (.one (.s .own O z rows)):=gX (fun s' q=>by obtain⟨u,k⟩:=BX q;exact I.any_refs Z (I.val u s' k) (I.kind s' q)) (fun⟨c,fl,d,z,r,h⟩=>by cases h);rw[N]at F;have J:(execOp a.eval o).run P w = .ok (.value y) w':=by simp[execOp,m,j3]
   unfold Oper.wp;rw[J];exact hK _ _ _ (by rw[cp];simp[Sl.er,ak]) ⟨_,rfl⟩ F
  ·rename_i bt m;rw[BS]at e;obtain⟨ti,F5,rfl⟩:=e;have Fh:iy mkD (frD w) tab D (some t) bt=some (av D (some t) (.box (frD w).box (ti.zero.map (T.inj mkD.nil)))):=by simp only[iy,F5];rw[BZ A]
   obtain⟨y,w',G,M⟩:=oh ok I Fh;obtain⟨z,g1,g2,g3⟩:=l6 (Tab.ok ok F5) w;have F2:∀t∈ti.zero.map (T.inj mkD.nil),t.fine=true:=by intro t ht;rw[g2]at ht;simp only[B7,bG,CS]at ht;obtain⟨u,⟨j,hj,rfl⟩,rfl⟩:=ht;unfold zT;split<;>rfl
   have N:av D (some t) (.box (frD w).box (ti.zero.map (T.inj mkD.nil)))=D.set t (.box (frD w).box (ti.zero.map (T.inj mkD.nil))):=gX (fun s' q=>by obtain⟨u,k⟩:=BX q;exact I.any_refs Z (I.val u s' k) (I.kind s' q)) (fun⟨u,k,c,fl,d,z,r,h⟩=>by have:=F2 u k;rw[h]at this;simp[T.fine]at this);rw[N]at M;have J:(execOp a.eval o).run P w = .ok (.value y) w':=by simp[execOp,m,G]
   unfold Oper.wp;rw[J];rw[←hd]at M;exact hK _ _ _ (by rw[cp];show(erD D).set t (.box () (erL (ti.zero.map (T.inj mkD.nil))))=_;rw[←ip]) ⟨_,rfl⟩ M
  ·rename_i x i m;obtain⟨y,rfl,G,M⟩:=rM (P:=P) IM m e;have S:=M.hid H l;unfold Oper.wp;rw[G];have F:Inv cx (Am.putA D t (.one (.v y))) [] (a.put (some t) y).tmps w:=I.putA A S;have N:Am.putA D t (.one (.v y))=D.set t (.one (.v y)):=by unfold Am.putA;rw[Z]
   rw[N, ←hd]at F;exact hK _ _ _ (by rw[cp];simp[Sl.er,ca]) ⟨_,rfl⟩ F
  ·rename_i x m;rw[pP]at e;have I3:∀(p:DSl)(y:Value),(execOp a.eval o).run P w = .ok (.value y) w→Tells cx (Am.hid H l D) w p y→s=p.er→o.wp P a w K Q:=fun p y G M he=>by
    have S:=M.hid H l;unfold Oper.wp;rw[G];have F:Inv cx (Am.putA D t p) [] (a.put (some t) y).tmps w:=I.putA A S;have N:Am.putA D t p=D.set t p:=by unfold Am.putA;rw[Z]
    rw[N, ←hd]at F;exact hK _ _ _ (by rw[cp,he]) ⟨_,rfl⟩ F
   cases hT:dV (Am.hid H l D) x with
   |some rs =>rw[hT]at e;simp only[BQ,Ck]at e;exact I3 (.tup rs) (a.eval x) (by simp[execOp,m]) (rA IM hT) e.symm
   |none =>rw[hT]at e;simp only[Eg]at e;rw[oX]at e;obtain⟨p,e',rfl⟩:=BS.1 e;rw[←m]at e';obtain⟨y,G,M⟩:=jx ok IM e';exact I3 p y G M rfl
  ·rename_i bt F1 m;rw[pJ]at e;obtain⟨p,e',rfl⟩:=BS.1 e;obtain⟨y,G,M⟩:=oj ok IM e';have S:=M.hid H l;have J:(execOp a.eval o).run P w = .ok (.value y) w:=by simp[execOp,m,G]
   unfold Oper.wp;rw[J];have F:Inv cx (Am.putA D t p) [] (a.put (some t) y).tmps w:=I.putA A S;have N:Am.putA D t p=D.set t p:=by unfold Am.putA;rw[Z]
   rw[N, ←hd]at F;exact hK _ _ _ (cp D t p) ⟨_,rfl⟩ F
  rw[oX]at e;obtain⟨p,e',rfl⟩:=BS.1 e;obtain⟨y,G,M⟩:=jx ok IM e';have S:=M.hid H l;unfold Oper.wp;rw[G];have F:Inv cx (Am.putA D t p) [] (a.put (some t) y).tmps w:=I.putA A S;have N:Am.putA D t p=D.set t p:=by unfold Am.putA;rw[Z]
  rw[N, ←hd]at F;exact hK _ _ _ (cp D t p) ⟨_,rfl⟩ F
section
variable  {δ β : Type}
def T.isV:T δ→Bool| .v _=>true|_=>false
def cu:Sl δ β→Option (List (T δ))| .one u=>if u.isOwn=true then some [u]else none| .agg ts=>if ts.all (fun t=>t.isOwn ||t.isV)=true then some ts else none|_=>none
def cW:Sl δ β→Option (T δ)| .one (.v x)=>some (.v x)|_=>none
def bQ (rd:Nat→Option (Sl δ β))(pl:List (Nat×Nat)):List (Nat×Operand)→List (T δ)→Option (List (T δ))
 |[],ts=>some ts
 |(i,x)::r,ts =>
  match x with
  | .tmp q =>
   match pl[i]?,(rd q).bind cW with
   |some (off,size),some t=>if 1=size∧off+1≤ts.length then bQ rd pl r (am ts off [t])else none
   |_,_=>none
  |_=>none
def l8 (rs:List (Bool×List (T δ))):Bool:=rs.all (fun r=>r.2.all fun t=>t.isOwn ||t.isV) && !(rs.all fun r=>r.2.all T.flat)
def dA:Sl δ β→Option (List (Bool×List (T δ)))| .tup rs=>if l8 rs=true then some rs else none|_=>none
def takeSlot (o:Oper):Option Nat :=
 match o.op with
 | .buildSlice _ _ a=>match a.toList with|[(0,.tmp u)]=>some u|_=>none
 | .build _ a=>match a.toList with|(_,.tmp u)::_=>some u|_=>none
 | .move x=>match x with| .tmp u=>some u|_=>none
 |_=>none
def jV (M:Mk δ β)(F:gz δ β)(tab:Tab)(rd:Nat→Option (Sl δ β))(o:Oper):Option (Sl δ β):=
 match o.op with
 | .buildSlice t len a =>
  match tab.ti t,a.toList with
  |some ⟨_,_,_,.slice e⟩,[(0,.tmp u)]=>
   match tab.ti e,(rd u).bind cu with
   |some b,some us=>if len=1∧b.size≠0∧b.zero.length=b.size∧b.size≤2 ^ 24∧us.length=b.size then some (.one (.s .own (F.row 1) b.size [us]))else none
   |_,_=>none
  |_,_=>none
 | .build t a =>
  match tab.ti t,tab.pl t,a.toList with
  |some ti,some pl,(i,.tmp u)::r =>
   match pl[i]?,(rd u).bind cu with
   |some (off,size),some us =>if us.length=size∧off+us.length≤(ti.zero.map (T.inj M.nil)).length then(bQ rd pl r (am (ti.zero.map (T.inj M.nil)) off us)).map fun ts=>.agg ts else none
   |_,_=>none
  |_,_,_=>none
 | .move x=>match x with| .tmp u=>((rd u).bind dA).map .tup|_=>none
 |_=>none
theorem xz {x:Sl δ β}{t:T δ}(h:cW x=some t):∃y,x = .one (.v y)∧t = .v y:=by
 unfold cW at h;split at h
 ·cases h;exact⟨_,rfl,rfl⟩
 ·cases h
theorem oK {D:St δ β}{pl:List (Nat×Nat)}:∀(r:List (Nat×Operand)){ts us:List (T δ)},bQ (fun q=>D[q]?) pl r ts=some us→r.filter (fun p=>dT D p.2)=[]
 |[],ts,us,_=>rfl
 |(i,x)::r,ts,us,h=>by
  simp only[bQ]at h;split at h
  ·rename_i q;split at h
   ·rename_i off size t f b;rw[BT]at b;obtain⟨y,c,a⟩:=b;split at h
    ·have d:=oK r h;have e:dT D (.tmp q)=false:=by
      simp only[dT,c];unfold cW at a;split at a
      ·rfl
      ·cases a
     rw[Dx,Cd (by rw[e];exact CF),d]
    ·cases h
   ·cases h
  ·cases h
theorem kU {rd a:Nat→Option (Sl δ β)}(b:∀q x,rd q=some x→(cW x).isSome=true→a q=some x){pl:List (Nat×Nat)}:∀(r:List (Nat×Operand)){ts us:List (T δ)},
  bQ rd pl r ts=some us→bQ a pl r ts=some us
 |[],ts,us,h=>h
 |(i,x)::r,ts,us,h=>by
  simp only[bQ]at h ⊢;split at h
  ·rename_i q;split at h
   ·rename_i off size t e c;rw[BT]at c;obtain⟨y,f,d⟩:=c;have g:=b q y f (by rw[d];rfl);simp only[e,g,BU,d];split at h
    ·rename_i hc;rw[BZ hc];exact kU b r h
    ·cases h
   ·cases h
  ·cases h
theorem xK {M:Mk δ β}{F:gz δ β}{tab:Tab}{rd a:Nat→Option (Sl δ β)}(m:∀q x,rd q=some x→(cW x).isSome=true→a q=some x)(l:∀q x,rd q=some x→(cu x).isSome=true→a q=some x)(n:∀q x,rd q=some x→(dA x).isSome=true→a q=some x){o:Oper}{s:Sl δ β}
  (h:jV M F tab rd o=some s):jV M F tab a o=some s:=by
 unfold jV at h ⊢;split at h
 ·split at h
  ·rename_i d f;split at h
   ·rename_i v us g b;rw[BT]at b;obtain⟨y,e,c⟩:=b;have j:=l _ y e (by rw[c];rfl);simp only[d,f,g,j,BU,c];exact h
   ·cases h
  ·cases h
 ·split at h
  ·rename_i ti pl i u r d k f;split at h
   ·rename_i off size us hi b;rw[BT]at b;obtain⟨y,e,c⟩:=b;have j:=l _ y e (by rw[c];rfl);simp only[d,k,f,hi,j,BU,c];split at h
    ·rename_i hc;rw[BZ hc];rw[BS]at h ⊢;obtain⟨ts,p,t⟩:=h;exact⟨ts,kU m r p,t⟩
    ·cases h
   ·cases h
  ·cases h
 ·split at h
  ·rename_i u;rw[BS]at h;obtain⟨rs,b,rfl⟩:=h;rw[BT]at b;obtain⟨y,e,c⟩:=b;rw[n _ y e (by rw[c];rfl),BU,c];rfl
  ·cases h
 ·cases h
theorem oz (u:Nat)(D:St δ β):(au u D).length=D.length:=by simp[au,St.dead]
theorem tb {D:St δ β}{u q:Nat}{x:Value}(h:D[q]?=some (.one (.v x)))(a:q≠u):(au u D)[q]?=some (.one (.v x)):=by unfold au;rw[B3 (fun e=>a e.symm)];simp only[St.dead,B6,h,BQ];rfl
theorem oJ {M:Mk δ β}{D:St δ β}{q:Nat}{x:Value}(h:D[q]?=some (.one (.v x))):cellsCopy M D (.tmp q)=some (false,[.v x]):=by simp only[cellsCopy,opd,jG,h]
theorem kv {M:Mk δ β}{D:St δ β}{u:Nat}(b:∀x,D[u]?≠some (.one (.v x))){pl:List (Nat×Nat)}:∀(r:List (Nat×Operand)){ts us:List (T δ)},bQ (fun q=>D[q]?) pl r ts=some us→aZ M (au u D) pl r ts=some us
 |[],ts,us,h=>h
 |(i,x)::r,ts,us,h=>by
  simp only[bQ]at h;simp only[aZ];split at h
  ·rename_i q;split at h
   ·rename_i off size t f c;rw[BT]at c;obtain⟨y,d,g⟩:=c;obtain⟨v,rfl,rfl⟩:=xz g;have a:q≠u:=fun e=>b v (e ▸ d)
    rw[f,oJ (tb d a)];simp only;split at h
    ·rename_i hc;rw[BZ (by simpa using hc)];exact kv b r h
    ·cases h
   ·cases h
  ·cases h
theorem oQ {M:Mk δ β}{D:St δ β}{u:Nat}{x:Sl δ β}{us:List (T δ)}(h:D[u]?=some x)(a:cu x=some us):(∃g,cellsTake M D (.tmp u)=some (g,us,au u D))∧us.all (fun t=>t.isOwn ||t.flat)=true∧∀y,D[u]?≠some (.one (.v y)):=by
 unfold cu at a;split at a
 ·rename_i t;split at a
  ·rename_i c;cases a;refine⟨⟨false,?_⟩,by simp[c],fun y e=>?_⟩
   ·simp only[cellsTake,h];rw[BZ c]
   ·rw[h]at e;cases e;cases c
  ·cases a
 ·rename_i ts;split at a
  ·rename_i b;cases a;refine⟨⟨true,?_⟩,?_,fun y e=>?_⟩
   ·simp only[cellsTake,h];rw[BZ];rw[B2]at b ⊢;intro t f;have:=b t f;cases t with
    |v x=>rfl
    |any=>rfl
    |s k d z r=>cases k<;>first|rfl|(simp[T.isOwn,T.isV]at this)
   ·rw[B2]at b ⊢;intro t f;have:=b t f;cases t with
    |v x=>rfl
    |any=>simp[T.isOwn,T.isV]at this
    |s k d z r=>cases k<;>first|rfl|(simp[T.isOwn,T.isV]at this)
   ·rw[h]at e;cases e
  ·cases a
 ·cases a
theorem xL {x:Sl δ β}{rs:List (Bool×List (T δ))}(h:dA x=some rs):x = .tup rs∧(rs.all fun r=>r.2.all T.noLent)=true∧(rs.all fun r=>r.2.all T.flat)=false:=by
 unfold dA at h;split at h
 ·rename_i rs';split at h
  ·rename_i a;cases h;unfold l8 at a;rw[Cf]at a;refine⟨rfl,?_,by simpa using a.2⟩;rw[B2];intro r b;rw[B2];intro t c;have:=B2.1 (B2.1 a.1 r b) t c;cases t with
   |v x=>rfl
   |any=>rfl
   |s k d z r=>cases k<;>first|rfl|(simp[T.isOwn,T.isV]at this)
  ·cases h
 ·cases h
theorem r7 {M:Mk δ β}{F:gz δ β}{tab:Tab}{D:St δ β}{o:Oper}{t u:Nat}(hd:o.dst=some t)(a:takeSlot o=some u)(p:t<D.length){s:Sl δ β}(A:au u D=D.set u .any)(h:jV M F tab (fun q=>D[q]?) o=some s):
  bn M F tab D o true=some (av (au u D) (some t) s):=by
 unfold jV at h;unfold takeSlot at a;unfold bn;split at h
 ·rename_i B len d b;simp only[b]at a ⊢;split at h
  ·rename_i sz C K e u' f j;simp only[j]at a;cases a;split at h
   ·rename_i L us v c;rw[BT]at c;obtain⟨x,k,l⟩:=c;obtain⟨⟨g,m⟩,n,_⟩:=oQ (M:=M) k l;split at h
    ·rename_i hc;cases h;rw[BZ trivial];simp only[ef,f,hd,j,v,m];rw[BZ ⟨hc.1,by rw[oz];exact p,hc.2.1,hc.2.2.1,hc.2.2.2.1,hc.2.2.2.2,n⟩]
    ·cases h
   ·cases h
  ·cases h
 ·rename_i B d b;simp only[b]at a ⊢;split at h
  ·rename_i ti pl i u' r f w j;simp only[j]at a;cases a;split at h
   ·rename_i off size us hi c;rw[BT]at c;obtain⟨x,k,l⟩:=c;obtain⟨⟨g,m⟩,n,G⟩:=oQ (M:=M) k l;split at h
    ·rename_i hc;rw[BS]at h;obtain⟨ts,z,rfl⟩:=h;rw[BZ trivial];refine sJ (by unfold nW;rw[j];have:=oK r z;rw[Dx];split<;>simp[this]) ?_;simp only[iQ,f,w,j,hd,hi,m];rw[BZ ⟨hc.1,hc.2,by rw[oz];exact p⟩,kv G r z];rfl
    ·cases h
   ·cases h
  ·cases h
 ·rename_i x b;simp only[b]at a ⊢;split at h
  ·rename_i u';cases a;rw[BS]at h;obtain⟨rs,a,rfl⟩:=h;rw[BT]at a;obtain⟨y,k,l⟩:=a;obtain⟨rfl,m,n⟩:=xL l;have H:jT tab o.type (.tmp u)=none:=rfl;have I:dV D (.tmp u)=none:=by simp only[dV,k];rw[Cd (fun q=>by rw[n]at q;cases q.1)]
   have J:gN D (.tmp u) o.dst=some (av (D.set u .any) (some t) (.tup rs)):=by simp only[gN,hd,k];rw[BZ ⟨p,m⟩]
   simp only[H,I,J,CI];rw[A]
  ·cases h
 ·cases h
end
theorem wV (t:DT):t.er.isV=t.isV:=by
 cases t with
 |v x=>rfl
 |any=>rfl
 |s k d z r=>simp[ak,T.isV]
theorem xf (x:DSl):cu x.er=(cu x).map erL:=by
 cases x with
 |one u =>simp only[Sl.er,cu,bw];split<;>rfl
 |agg ts =>
  simp only[Sl.er,cu];have:(erL ts).all (fun t=>t.isOwn ||t.isV)=ts.all (fun t=>t.isOwn ||t.isV):=by show(ts.map T.er).all _=_;rw[CQ];congr 1;funext t;show(t.er.isOwn ||t.er.isV)=_;rw[bw,wV]
  rw[this];split<;>rfl
 |_=>rfl
theorem xg (x:DSl):dA x.er=(dA x).map (List.map fun r=>(r.1,erL r.2)):=by
 cases x with
 |tup rs =>
  simp only[Sl.er,dA];have a:∀l:List DT,(erL l).all (fun t=>t.isOwn ||t.isV)=l.all (fun t=>t.isOwn ||t.isV):=fun l=>by show(l.map T.er).all _=_;rw[CQ];congr 1;funext t;show(t.er.isOwn ||t.er.isV)=_;rw[bw,wV]
  have b:∀l:List DT,(erL l).all T.flat=l.all T.flat:=fun l=>by show(l.map T.er).all _=_;rw[CQ];congr 1;funext t;exact lJ t
  have:l8 (rs.map fun r=>(r.1,erL r.2))=l8 rs:=by
   unfold l8;rw[CQ,CQ];congr 1
   ·congr 1;funext r;exact a r.2
   ·congr 2;funext r;exact b r.2
  rw[this];split<;>rfl
 |_=>rfl
theorem xb (x:DSl):cW x.er=(cW x).map T.er:=by
 cases x with
 |one u =>
  cases u with
  |v y=>rfl
  |any=>rfl
  |s k d z r=>simp[Sl.er,ak,cW]
 |_=>rfl
theorem mG (D:DSt)(pl:List (Nat×Nat)):∀(r:List (Nat×Operand))(ts:List DT),bQ (fun q=>(erD D)[q]?) pl r (erL ts)=(bQ (fun q=>D[q]?) pl r ts).map erL
 |[],ts=>rfl
 |(i,x)::r,ts=>by
  simp only[bQ];split
  ·rename_i q;have e:((erD D)[q]?).bind cW=((D[q]?).bind cW).map T.er:=by
    rw[aF];cases D[q]? with
    |none=>rfl
    |some y=>simp only[BQ,BU,xb]
   rw[e];cases pl[i]? with
   |none=>rfl
   |some os =>
    obtain⟨off,size⟩:=os;cases(D[q]?).bind cW with
    |none=>rfl
    |some t =>
     simp only[BQ,Ci];split
     ·have a:am (erL ts) off [t.er]=erL (am ts off [t]):=(d4 ts off [t]).symm;rw[a];exact mG D pl r _
     ·rfl
  ·rfl
theorem y6 (w:World)(tab:Tab)(D:DSt)(o:Oper):jV mkU frU tab (fun q=>(erD D)[q]?) o=(jV mkD (frD w) tab (fun q=>D[q]?) o).map Sl.er:=by
 have b:∀u,((erD D)[u]?).bind cu=((D[u]?).bind cu).map erL:=fun u=>by
  rw[aF];cases D[u]? with
  |none=>rfl
  |some y=>simp only[BQ,BU,xf]
 unfold jV;split
 ·split
  ·rename_i sz c j e u a d;simp only[b];cases tab.ti e with
   |none=>rfl
   |some k =>
    cases(D[u]?).bind cu with
    |none=>rfl
    |some us =>
     simp only[BQ,Ci];split
     ·simp only[BQ,Sl.er,ak,Cc,Cu]
     ·rfl
  ·rfl
 ·split
  ·rename_i ti pl i u r a f d;simp only[b];cases pl[i]? with
   |none=>rfl
   |some os =>
    obtain⟨off,size⟩:=os;cases(D[u]?).bind cu with
    |none=>rfl
    |some us =>
     simp only[BQ,Ci];split
     ·have g:am (ti.zero.map (T.inj mkU.nil)) off (erL us)=erL (am (ti.zero.map (T.inj mkD.nil)) off us):=by rw[ip,d4]
      rw[g,mG];cases bQ (fun q=>D[q]?) pl r (am (ti.zero.map (T.inj mkD.nil)) off us)with
      |none=>rfl
      |some ts=>simp only[BQ,Sl.er]
     ·rfl
  ·rfl
 ·split
  ·rename_i u h;show(((erD D)[u]?).bind dA).map Sl.tup=(((D[u]?).bind dA).map Sl.tup).map Sl.er;rw[aF];cases D[u]? with
   |none=>rfl
   |some y =>
    simp only[BQ,BU,xg];cases dA y with
    |none=>rfl
    |some rs=>rfl
  ·rfl
 ·rfl
theorem ld {p:Nat→Nat→Bool}{t:DT}(h:((t.dead p).isOwn ||(t.dead p).isV)=true):t.dead p=t:=by
 cases t with
 |v x=>rfl
 |any=>rfl
 |s k d z r =>
  cases k with
  |own=>rfl
  |far=>rfl
  |lent b c e =>
   simp only[T.dead]at h ⊢;split
   ·rename_i a;rw[BZ a]at h;simp[T.isOwn,T.isV]at h
   ·rfl
theorem tA {D:DSt}{a q:Nat}{x:DSl}(h:(kill1 D a)[q]?=some x)(hx:(cu x).isSome=true∨(cW x).isSome=true∨(dA x).isSome=true):D[q]?=some x:=by
 by_cases e:a<D.length
 ·rw[gp D a q e]at h;split at h
  ·cases h;rcases hx with hx|hx|hx<;>cases hx
  ·rw[BS]at h;obtain⟨y,j,m⟩:=h;rw[j];congr 1;subst m;cases y with
   |any=>rfl
   |one u =>
    simp only[Sl.clean,Sl.dead,Sl.gone]at hx ⊢;rw[ld];rcases hx with hx|hx|hx
    ·simp only[cu]at hx;split at hx
     ·rename_i n;simp[n]
     ·cases hx
    ·unfold cW at hx;split at hx
     ·rename_i v w;cases o:(u.dead (atH a))<;>simp_all[T.isV]
     ·cases hx
    ·cases hx
   |agg ts =>
    simp only[Sl.clean,Sl.dead,Sl.gone]at hx ⊢;rcases hx with hx|hx|hx
    ·simp only[cu]at hx;split at hx
     ·rename_i c;rw[B2]at c;have:=Cl (f:=T.dead (atH a)) (g:=id) (l:=ts) fun t d=>ld (c _ (C9 d))
      rw[Dl]at this;rw[this]
     ·cases hx
    ·cases hx
    ·cases hx
   |box b ts=>simp only[Sl.clean,Sl.dead,Sl.gone]at hx;rcases hx with hx|hx|hx<;>cases hx
   |al=>simp only[Sl.clean,Sl.dead]at hx ⊢;split at hx<;>(rcases hx with hx|hx|hx<;>cases hx)
   |pe=>simp only[Sl.clean,Sl.dead]at hx ⊢;split at hx<;>(rcases hx with hx|hx|hx<;>cases hx)
   |pb=>simp only[Sl.clean,Sl.dead,Sl.gone]at hx ⊢;split at hx<;>(rcases hx with hx|hx|hx<;>cases hx)
   |clo=>simp only[Sl.clean,Sl.dead,Sl.gone]at hx ⊢;split at hx<;>(rcases hx with hx|hx|hx<;>cases hx)
   |im k b ts off =>
    cases k with
    |lent=>simp only[Sl.clean,Sl.dead]at hx ⊢;split at hx<;>(rcases hx with hx|hx|hx<;>cases hx)
    |_=>rcases hx with hx|hx|hx<;>cases hx
   |fni f caps=>rcases hx with hx|hx|hx<;>cases hx
   |tup rs =>
    simp only[Sl.clean,Sl.dead,Sl.gone]at hx ⊢;rcases hx with hx|hx|hx
    ·cases hx
    ·cases hx
    ·simp only[dA]at hx;split at hx
     ·rename_i c;unfold l8 at c;rw[Cf]at c;have:=Cl (f:=fun r:Bool×List DT=>(r.1,r.2.map (T.dead (atH a)))) (g:=id) (l:=rs) fun r p=>by
       have s:=B2.1 c.1 (r.1,r.2.map (T.dead (atH a))) (C9 p);have i:=Cl (f:=T.dead (atH a)) (g:=id) (l:=r.2) fun t d=>ld (B2.1 s _ (C9 d))
       rw[Dl]at i;show(r.1,_)=r;rw[i]
      rw[Dl]at this;rw[this]
     ·cases hx
 ·unfold kill1 at h;rw[Cd e]at h;exact h
theorem lV:∀(l:List Nat){D:DSt}{q:Nat}{x:DSl},(killAll l D)[q]?=some x→(cu x).isSome=true∨(cW x).isSome=true∨(dA x).isSome=true→D[q]?=some x
 |[],D,q,x,h,_=>h
 |a::l,D,q,x,h,b=>by simp only[killAll,Cw]at h;exact tA (lV l h b) b
theorem up {D:DSt}{p:Nat×Nat}{q:Nat}{x:DSl}(h:(any1 D p)[q]?=some x)(hx:(cu x).isSome=true∨(cW x).isSome=true∨(dA x).isSome=true):D[q]?=some x:=by
 unfold any1 at h;split at h
 case isFalse=>exact h
 rename_i e;obtain⟨b,ts,v,c,_,_⟩:=dX e;by_cases a:q=p.1
 ·subst a;rw[gw c]at h;cases h;rcases hx with hx|hx|hx<;>cases hx
 ·rw[dL a]at h;exact h
theorem oi:∀(H:List (Nat×Nat)){D:DSt}{q:Nat}{x:DSl},(anyC H D)[q]?=some x→(cu x).isSome=true∨(cW x).isSome=true∨(dA x).isSome=true→D[q]?=some x
 |[],D,q,x,h,_=>h
 |p::H,D,q,x,h,a=>by simp only[anyC,Cw]at h;exact up (oi H h a) a
theorem j8 (H:List (Nat×Nat))(l:List Nat){D:DSt}{q:Nat}{x:DSl}(h:(hid H l D)[q]?=some x)(a:(cu x).isSome=true∨(cW x).isSome=true∨(dA x).isSome=true):D[q]?=some x:=oi H (lV l h a) a
def T.lentTo {δ:Type}(t:Nat):T δ→Bool| .s (.lent h _ _) _ _ _=>h==t|_=>false
def bH {δ β:Type}(t:Nat):Sl δ β→Bool| .al h _ _ _ _=>h==t| .pe h _ _ _ _=>h==t| .pb h _=>h==t| .clo _ hs=>hs.contains t| .im (.lent h _ _) _ _ _=>h==t| .one u=>u.lentTo t| .agg ts=>ts.any (T.lentTo t)| .box _ ts=>ts.any (T.lentTo t)| .tup rs=>rs.any fun r=>r.2.any (T.lentTo t)|_=>false
theorem zJ {t:Nat}{s:DSl}(h:bd t s):bH t s.er=true:=by
 have g:∀(ts:List DT),(∃u∈ts,∃c e d z r,u = .s (.lent t c e) d z r)→(erL ts).any (T.lentTo t)=true:=by rintro ts ⟨u,j,c,e,d,z,r,rfl⟩;rw[C4];exact⟨_,C9 j,by simp[ak,T.lentTo]⟩
 cases s with
 |any=>cases h
 |one u=>obtain⟨c,e,d,z,r,rfl⟩:=h;simp[Sl.er,ak,bH,T.lentTo]
 |agg ts=>exact g ts h
 |box b ts=>exact g ts h
 |al a c st lo len=>simp only[bd]at h;subst h;simp[Sl.er,bH]
 |pe a c st i off=>simp only[bd]at h;subst h;simp[Sl.er,bH]
 |pb a off=>simp only[bd]at h;subst h;simp[Sl.er,bH]
 |im k b ts off =>
  cases k with
  |lent a c e=>simp only[bd]at h;subst h;simp[Sl.er,bH]
  |_=>cases h
 |fni f caps=>cases h
 |clo f hs =>have a:t∈hs:=h;simp[Sl.er,bH,a]
 |tup rs =>obtain⟨r,l,j⟩:=h;simp only[Sl.er,bH];rw[C4];exact⟨_,C9 l,g r.2 j⟩
theorem tL {t:Nat}{s:DSl}(h:bH t s.er=false):¬bd t s:=fun q=>by rw[zJ q]at h;cases h
theorem nk {D:DSt}{u:Nat}(b:∀s∈D,¬bd u s):au u D=D.set u .any:=by
 have:(St.dead (atH u) (qH u) D).map (Sl.gone u)=D:=by
  simp only[St.dead,Ct]
  conv=>rhs;rw[←Dl D]
  exact Cl fun s' a=>la (b s' a)
 unfold au;rw[this]
theorem Inv.stepT {P:Program}{tab:Tab}(ok:ax P tab){cx:Cx}{D:DSt}{a:Act}{w:World}(I:Inv cx D [] a.tmps w){H:List (Nat×Nat)}{l:List Nat}{o:Oper}{t u:Nat}(hd:o.dst=some t)(k:D[t]?=some .any)(v:Am.takeSlot o=some u)
  (z:∀s∈erD D,bH u s=false) {s:Sl Unit Unit} (e:jV mkU frU tab (fun q=>(Am.hid H l (erD D))[q]?) o=some s) (hs:bH t s=false) {K:Act→World→Prop} {Q:Exit→Act→World→Prop}
  (A:∀D' m w',erD D'=((erD D).set u .any).set t s→(∃y,m=a.put o.dst y)→Inv cx D' [] m.tmps w'→K m w'):o.wp P a w K Q:=by
 have n:t<D.length:=by
  rcases BY t D.length with g|g
  ·exact g
  ·rw[BV g]at k;cases k
 rw[←nc,y6 w]at e;obtain⟨B,C,rfl⟩:=BS.1 e;have F:jV mkD (frD w) tab (fun q=>D[q]?) o=some B:=xK (fun q x c d=>j8 H l c (.inr (.inl d))) (fun q x c d=>j8 H l c (.inl d)) (fun q x c d=>j8 H l c (.inr (.inr d))) C;have f:∀s∈D,¬bd u s:=fun s hs=>tL (z s.er (C9 hs))
 have p:∀s∈D,¬bd t s:=fun s' b=>by obtain⟨i,hi⟩:=BX b;exact I.any_refs k (I.val i s' hi) (I.kind s' b)
 have r:=r7 hd v n (nk f) F;rw[nk f,gX (fun s' b=>by
  rcases CK b with h|rfl
  ·exact p s' h
  ·exact fun h=>h) (tL hs)]at r
 obtain⟨G,w',c,d⟩:=mD ok I r;unfold Oper.wp;rw[c];cases d with
 |value y h=>exact A _ _ _ (by rw[cp,cp];rfl) ⟨_,rfl⟩ h
 |skip j h=>rw[hd]at j;cases j
def tko (tk:Nat→Bool)(ops:Array Oper)(j:Nat):Option Nat:=if tk j=true then(ops[j]?).bind fun o=>if o.guard.isNone=true then takeSlot o else none else none
def dz (tk:Nat→Bool)(ops:Array Oper)(m:Nat):List Nat:=(List.range m).filterMap (tko tk ops)
def gM (tk:Nat→Bool)(ops:Array Oper)(m j:Nat):List Nat:=(List.range m).filterMap fun k=>if k=j then none else tko tk ops k
def dw (tk:Nat→Bool)(ops:Array Oper)(m:Nat)(anc:List (List Nat))(j:Nat):List Nat :=
 (List.range m).filterMap fun i=>match(ops[i]?).bind (·.dst)with
  |some t=>if((anc.getD j []).contains i && !((gM tk ops m j).contains t))=true then none else some t
  |none=>none
def jv (ops:Array Oper)(anc:List (List Nat)):List (Nat×Nat×Nat):=(anc.drop ops.size).filterMap fun l=>match l with|[j,h,c]=>some (j,h,c)|_=>none
def stO (ops:Array Oper)(anc:List (List Nat))(j:Nat):Option (Nat×Nat):=(jv ops anc).lookup j
def stH (ops:Array Oper)(anc:List (List Nat)):List (Nat×Nat):=(jv ops anc).map (·.2)
section
variable  {δ β : Type}
def tP (M:Mk δ β)(D:St δ β)(x:Operand):Option Value :=
 match x with
 | .tmp q=>match D[q]? with|some (.one (.v y))=>some y|_=>none
 |x=>match cellsCopy M ([]:St δ β) x with|some (false,[.v y])=>some y|_=>none
def stepS (M:Mk δ β)(tab:Tab)(D:St δ β)(o:Oper)(h c:Nat):Option Value :=
 match o.op,o.dst,o.guard with
 | .store t (.tmp p) x,none,none =>
  match tab.ti t,D[p]?,jT tab t x with
  |some ti,some (.pb a b),none=>if ti.size=1∧a=h∧b=c then tP M D x else none
  |_,_,_=>none
 |_,_,_=>none
end
def sf (tk:Nat→Bool)(ops:Array Oper)(m:Nat)(anc:List (List Nat)):Bool :=
 decide (m≤ops.size) &&
 (List.range ops.size).all (fun j=>(aC ops j).all fun i=>decide (i<j)) &&
 (List.range m).all (fun j=>(stO ops anc j).isSome ||((ops[j]?).bind (·.dst)).isSome)&&decide ((a9 ops m).Nodup) &&
 (List.range ops.size).all (fun j=>(anc.getD j []).all fun i=>(aC ops j).contains i ||(aC ops j).any fun k=>(anc.getD k []).contains i) &&
 (List.range ops.size).all (fun j=>decide (j<m)||(List.range j).all fun i=>(aC ops j).contains i ||(aC ops j).any fun k=>(anc.getD k []).contains i) &&
 (List.range m).all (fun k=>match tko tk ops k with
  |some u=>(List.range m).any (fun i=>(anc.getD k []).contains i&&decide ((ops[i]?).bind (·.dst)=some u)) && !((gM tk ops m k).contains u)
  |none=>true) &&
 ((jv ops anc).all (fun p=>decide ((p.1<m∧stO ops anc p.1=some p.2)∧tko tk ops p.1=none)&&(decide ((ops[p.1]?).bind (·.dst)=none) && !((a9 ops m).contains p.2.1)))&&decide ((jv ops anc).map (·.2)).Nodup)
def evM (tab:Tab)(fns:FuncId→Option Func)(C:Sem1)(tk:Nat→Bool)(ops:Array Oper)(m:Nat)(anc:List (List Nat))(j:Nat)(U:US):Option (Sl Unit Unit):=
 match ops[j]? with
 |some o =>
  match stO ops anc j with
  |some (h,c)=>(stepS mkU tab (hid (stH ops anc) (dw tk ops m anc j) U) o h c).map fun y=>.one (.v y)
  |none =>
  match o.dst with
  |some t =>
   (match tko tk ops j with
    |none=>tf ops (hid (stH ops anc) (dw tk ops m anc j) U) o (stepV tab fns C (hid (stH ops anc) (dw tk ops m anc j) U) o)
    |some _=>jV mkU frU tab (fun q=>(hid (stH ops anc) (dw tk ops m anc j) U)[q]?) o).bind fun s=>if(t::dz tk ops m).all (fun v => !bH v s)=true then some s else none
  |none=>none
 |none=>none
def jp (tk:Nat→Bool)(ops:Array Oper)(j:Nat)(U:US):US:=match tko tk ops j with|none=>U|some u=>U.set u .any
def iR {δ β:Type}:Sl δ β→T δ| .one (.v y)=>.v y|_=>.any
def stepM (tab:Tab)(fns:FuncId→Option Func)(C:Sem1)(tk:Nat→Bool)(ops:Array Oper)(m:Nat)(anc:List (List Nat))(U:US)(j:Nat):Option US :=
 match stO ops anc j with
 |some (h,c)=>if dO U h c=true then(evM tab fns C tk ops m anc j U).map fun s=>dv U h c (iR s)else none
 |none =>
 match(ops[j]?).bind (·.dst)with
 |some t =>
  match U[t]? with
  |some .any=>(evM tab fns C tk ops m anc j U).map fun s=>(jp tk ops j U).set t s
  |_=>none
 |none=>none
def gZ (tab:Tab)(fns:FuncId→Option Func)(C:Sem1)(tk:Nat→Bool)(ops:Array Oper)(m:Nat)(anc:List (List Nat)):Nat→Nat→US→Option US| 0,_,U=>some U|n+1,j,U=>(stepM tab fns C tk ops m anc U j).bind (gZ tab fns C tk ops m anc n (j+1))
def runD (tab:Tab)(fns:FuncId→Option Func)(C:Sem1)(tk:Nat→Bool)(ops:Array Oper)(m:Nat)(anc:List (List Nat))(D:US):Option US :=if sf tk ops m anc&&(a9 ops m).all (fun t=>decide (t<D.length))&&(killAll (a9 ops m) D).all (fun s=>(dz tk ops m).all fun u => !bH u s)&&(jv ops anc).all (fun p=>dO (killAll (a9 ops m) D) p.2.1 p.2.2)then (gZ tab fns C tk ops m anc m 0 (killAll (a9 ops m) D)).bind (runOps tab fns C tk ops (ops.toList.drop m) m)else none
theorem yG {tk:Nat→Bool}{ops:Array Oper}{j u:Nat}{o:Oper}(a:ops[j]?=some o)(h:tko tk ops j=some u):takeSlot o=some u∧o.guard=none:=by
 unfold tko at h;split at h
 ·rw[a,BU]at h;split at h
  ·rename_i b;exact⟨h,Ea.1 b⟩
  ·cases h
 ·cases h
theorem Inv.cell_quiet {cx:Cx}{D:DSt}{P:List (DT×Value)}{tm:Array Value}{w:World}(I:Inv cx D P tm w){h c:Nat}(hc:dO D h c=true):St.dead (atR h c 1) (qR h c 1) D=D:=by
 obtain⟨b,ts,t,B,K,L⟩:=dX hc;have o:ah D h c=some t:=by simp[ah,B,ap,K]
 have j:∀e l,atR h c 1 e l=true→e=h∧l=c:=fun e l q=>by simp only[atR,Cf,C8,DS]at q;exact⟨q.1.1,by omega⟩
 have m:∀u,ah D h c=some u→u.isOwn=true→False:=fun u G H=>by rw[o]at G;cases G;rw[oU L]at H;cases H
 have J:∀u:DT,aB cx D u→u.dead (atR h c 1)=u:=by
  intro u p;cases u with
  |v x=>rfl
  |any=>rfl
  |s k d z r =>
   cases k with
   |own=>rfl
   |far=>rfl
   |lent e l M =>
    simp only[T.dead];split
    ·rename_i q;obtain⟨rfl,rfl⟩:=j _ _ q;rcases p with⟨g,_⟩|⟨v,y,A,_⟩
     ·exact(lN B g).elim
     ·exact(m v y A).elim
    ·rfl
 have C:∀us:List DT,(∀u∈us,aB cx D u)→us.map (T.dead (atR h c 1))=us:=by
  intro us F
  conv=>rhs;rw[←Dl us]
  exact Cl fun u N=>J u (F u N)
 simp only[St.dead]
 conv=>rhs;rw[←Dl D]
 refine Cl fun s hs=>?_
 obtain⟨q,O⟩:=BX hs;have hv:=I.val q s O;have p:=I.kind s hs;show Sl.dead _ _ s=s;cases s with
 |any=>rfl
 |one u=>simp only[Sl.dead];rw[J u (p u (by simp[af]))]
 |agg us=>simp only[Sl.dead];rw[C us p]
 |box Q us=>simp only[Sl.dead];rw[C us p]
 |al e l st lo len =>
  by_cases g:atR h c 1 e l=true
  ·obtain⟨rfl,rfl⟩:=j _ _ g;obtain⟨d,z,n,a,⟨u,y,A,_⟩,_⟩:=hv;exact(m u y A).elim
  ·simp[Sl.dead,qR,g]
 |pe e l st i off =>
  by_cases g:atR h c 1 e l=true
  ·obtain⟨rfl,rfl⟩:=j _ _ g;obtain⟨d,z,n,⟨u,y,A,_⟩,_⟩:=hv;exact(m u y A).elim
  ·simp[Sl.dead,qR,g]
 |pb e off=>rfl
 |im k Q us off =>
  cases k with
  |own=>rfl
  |far=>rfl
  |lent e l M =>
   simp only[Sl.dead];split
   ·rename_i g;obtain⟨rfl,rfl⟩:=j _ _ g;rcases p with⟨g,_⟩|⟨u,y,A,_⟩
    ·exact(lN B g).elim
    ·exact(m u y A).elim
   ·rfl
 |fni f caps=>rfl
 |clo f hs=>rfl
 |tup rs =>
  simp only[Sl.dead];congr 1
  conv=>rhs;rw[←Dl rs]
  refine Cl fun r R=>?_
  rw[C r.2 fun u F=>p u (by simp only[af,B5];exact⟨r,R,F⟩)];rfl
theorem zy {H:List (Nat×Nat)}{l:List Nat}{D:DSt}{q h c:Nat}(e:(hid H l (erD D))[q]?=some (.pb h c)):D[q]?=some (.pb h c):=by
 rw[←nc,aF,BS]at e;obtain⟨s,e,a⟩:=e;have:s = .pb h c:=by cases s<;>first|(simp only[Sl.er,Sl.pb.injEq]at a;obtain⟨rfl,rfl⟩:=a;rfl)|(cases a)
 subst this;have kill:∀(l:List Nat){D:DSt},(killAll l D)[q]?=some (.pb h c)→D[q]?=some (.pb h c):=by
  intro l;induction l with
  |nil=>intro D e;exact e
  |cons t l f =>
   intro D e;simp only[killAll,Cw]at e;have e:=f e;by_cases g:t<D.length
   ·rw[gp D t q g]at e;split at e
    ·cases e
    ·rw[BS]at e;obtain⟨s,j,a⟩:=e;rw[j];congr 1;unfold Sl.clean at a;cases s with
     |pb n o =>
      simp only[Sl.dead,Sl.gone]at a;split at a
      ·cases a
      ·exact a
     |al=>simp only[Sl.dead]at a;split at a<;>cases a
     |pe=>simp only[Sl.dead]at a;split at a<;>cases a
     |clo=>simp only[Sl.dead,Sl.gone]at a;split at a<;>cases a
     |im k b us off =>
      cases k with
      |lent=>simp only[Sl.dead]at a;split at a<;>cases a
      |_=>cases a
     |_=>cases a
   ·unfold kill1 at e;rw[Cd g]at e;exact e
 have d:∀(H:List (Nat×Nat)){D:DSt},(anyC H D)[q]?=some (.pb h c)→D[q]?=some (.pb h c):=by
  intro H;induction H with
  |nil=>intro D e;exact e
  |cons p H f =>
   intro D e;simp only[anyC,Cw]at e;have e:=f e;unfold any1 at e;split at e
   case isFalse=>exact e
   rename_i hc;obtain⟨b,ts,v,m,_,_⟩:=dX hc;by_cases i:q=p.1
   ·subst i;rw[gw m]at e;cases e
   ·rw[dL i]at e;exact e
 exact d H (kill l e)
theorem tQ {H:List (Nat×Nat)}{l:List Nat}{D:DSt}{x:Operand}{y:Value}(e:tP mkU (hid H l (erD D)) x=some y):cellsCopy mkD D x=some (false,[.v y]):=by
 unfold tP at e;split at e
 ·rename_i q;split at e
  ·rename_i n i;cases e;rw[←nc,aF,BS]at i;obtain⟨s,o,b⟩:=i;have:s = .one (.v y):=by
    cases s with
    |one u =>
     simp only[Sl.er,Sl.one.injEq]at b;cases u with
     |v z=>rw[ca]at b;cases b;rfl
     |any=>cases b
     |s k d z r=>rw[ak]at b;cases b
    |_=>cases b
   subst this;exact oJ (j8 H l o (.inr (.inl rfl)))
  ·cases e
 ·rename_i p m;split at e
  ·rename_i n i;cases e;have j:cellsCopy mkU (erD D) x=some (false,[.v y]):=by
    cases x with
    |tmp q=>exact absurd rfl (m q)
    |const v =>
     have:cellsCopy mkU ([]:US) (.const v)=cellsCopy mkU (erD D) (.const v):=by
      cases hv:(lG mkU.nil v:Option (Sl Unit Unit))with
      |none=>simp only[cellsCopy,opd,hv]
      |some s =>
       have hs:∀h c st lo len,s ≠ .al h c st lo len:=by
        intro h c st lo len q;subst q;unfold lG at hv;repeat' split at hv
        all_goals cases hv
       cases s with
       |al h c st lo len=>exact absurd rfl (hs h c st lo len)
       |_=>simp only[cellsCopy,opd,hv]
     rw[←this];exact i
    |func f=>cases i
    |global g=>cases i
   rw[cC,BS]at j;obtain⟨⟨g,us⟩,j,a⟩:=j;simp only[DC]at a;obtain⟨rfl,a⟩:=a;have:us=[.v y]:=by
    match us,a with
    |[],a=>cases a
    |[u],a =>
     simp only[erL,Cc,Cu,CX,Du]at a;cases u with
     |v z=>rw[ca]at a;cases a;rfl
     |any=>cases a
     |s k d z r=>rw[ak]at a;cases a
    |u::v::r,a=>simp[erL]at a
   rw[j,this]
  ·cases e
theorem Inv.stepS {P:Program}{tab:Tab}(ok:ax P tab){cx:Cx}{D:DSt}{a:Act}{w:World}(I:Inv cx D [] a.tmps w){H:List (Nat×Nat)}{l:List Nat}{o:Oper}{h c:Nat}(hc:dO D h c=true){y:Value}
  (e:Am.stepS mkU tab (Am.hid H l (erD D)) o h c=some y) {K:Act→World→Prop} {Q:Exit→Act→World→Prop} (u:∀z w',Inv cx (dv D h c (.v y)) [] (a.put o.dst z).tmps w'→K (a.put o.dst z) w'):o.guard=none∧o.wp P a w K Q:=by
 unfold Am.stepS at e;split at e
 case h_2=>cases e
 rename_i t p x j hd B;split at e
 case h_2=>cases e
 rename_i ti k f m C hz;split at e
 case isFalse=>cases e
 rename_i d;obtain⟨n,rfl,rfl⟩:=d;have F:=tQ e;have G:=zy C;obtain⟨b,ts,t0,q,v,N⟩:=dX hc;have r:f<ts.length:=by
  rcases BY f ts.length with g|g
  ·exact g
  ·rw[BV g]at v;cases v
 have A:=I.cell_quiet hc;have i:ts.map (T.dead (atR k f 1))=ts:=by have:=Ds (fun l:DSt=>l[k]?) A;simp only[St.dead,B6,q,BQ,Sl.dead,Ck,Sl.box.injEq,Ei]at this;exact this
 have s:bn mkD (frD w) tab D o false=some (dv D k f (.v y)):=by unfold bn;simp only[j,hd,hz];unfold iJ;simp only[m,Am.cellsOf,F,BQ,Ch,CD];rw[BZ (by simp[n])];simp only[Am.opd,jG,G,BU,du,q];rw[BZ (by simp;omega)];simp only[Dk,Ef,Db,A,i,qO q];congr 3;simp only[Cc,Cu];show am ts f [.v y]=_;unfold am;rw[List.set_eq_take_append_cons_drop,BZ r];simp
 refine⟨B,?_⟩;obtain⟨O,w',J,L⟩:=mD ok I s;unfold Oper.wp;rw[J];cases L with
 |value z g=>exact u z w' g
 |skip M g =>show K (a.put o.dst undef) w';refine u undef w' ?_;rw[hd];exact g
theorem Inv.stepM {P:Program}{tab:Tab}(ok:ax P tab){fns:FuncId→Option Func}(hf:dB P fns){B:Base}{C:Sem1}{cx:Cx}(Z:cZ P B C cx){D:DSt}{a:Act}{w:World}(I:Inv cx D [] a.tmps w)
  {tk:Nat→Bool} {ops:Array Oper} {m:Nat} {anc:List (List Nat)} {j:Nat} {U:US} (M:j<m) (hr:∀u∈dz tk ops m,∀s∈erD D,bH u s=false) (e:Am.stepM tab fns C tk ops m anc (erD D) j=some U) {K:Act→World→Prop} {Q:Exit→Act→World→Prop}
  (L:∀D' q w',erD D'=U→(∃o y,ops[j]?=some o∧q=a.put o.dst y)→Inv cx D' [] q.tmps w'→K q w'):wpOp P ops Q j K a w:=by
 unfold Am.stepM at e;split at e
 ·rename_i h c r;split at e
  case isFalse=>cases e
  rename_i F;rw[BS]at e;obtain⟨s,f,k⟩:=e;unfold evM at f;split at f
  case h_2=>cases f
  rename_i o l;rw[r]at f;simp only[BS]at f;obtain⟨y,i,rfl⟩:=f;rw[sS]at F;unfold wpOp;rw[l];simp only;have:=I.stepS ok F i (K:=K) (Q:=Q) fun z w' g=>L _ _ _ (by rw[vm];exact k) ⟨o,z,l,rfl⟩ g
  rw[BZ (by simp[Region.wanted,this.1])];exact .inl this.2
 rename_i r;split at e
 case h_2=>cases e
 rename_i t G;rw[BT]at G;obtain⟨o,l,hd⟩:=G;split at e
 case h_2=>cases e
 rename_i n;rw[BS]at e;obtain⟨s,f,k⟩:=e;unfold evM at f;rw[l]at f;simp only[r,hd]at f;rw[BT]at f;obtain⟨s',i,N⟩:=f;split at N
 case isFalse=>cases N
 rename_i H;cases N;have J:D[t]?=some .any:=by rw[aF,BS]at n;obtain⟨s',v,p⟩:=n;rw[v];cases s'<;>first|rfl|cases p
 have O:t<D.length:=by
  rcases BY t D.length with g|g
  ·exact g
  ·rw[BV g]at J;cases J
 split at i
 ·rename_i d;have k:(erD D).set t s=U:=by
   have:jp tk ops j (erD D)=erD D:=by unfold jp;rw[d]
   rw[this]at k;exact k
  have W:Region.wanted o (yielded ops a.tmps)=true→Am.stepV tab fns C (Am.hid (stH ops anc) (dw tk ops m anc j) (erD D)) o=some s→wpOp P ops Q j K a w:=by intro hw h;unfold wpOp;rw[l];simp only;rw[BZ hw];exact .inl (I.stepV ok hf Z hd J h fun D' q w' v p R=>L D' q w' (v.trans k) (p.elim fun y h=>⟨o,y,l,h⟩) R)
  unfold tf at i;split at i
  ·rename_i A;exact W (by simp[Region.wanted,A]) i
  ·rename_i g X A;split at i
   case h_2=>cases i
   rename_i b hb;have Y:yielded ops a.tmps g=b:=by rw[BT]at hb;obtain⟨t',v,p⟩:=hb;rw[←nc,mp]at p;have:=(I.hid (stH ops anc) (dw tk ops m anc j)).yieldAt p;unfold yielded;rw[v];exact this
   split at i
   ·rename_i x;exact W (by simp[Region.wanted,A,Y,x]) i
   ·rename_i x;cases i;unfold wpOp;rw[l];simp only;rw[Cd (by simp[Region.wanted,A,Y,x]),hd];have:=I.putUndef O;have hq:Am.putA D t (.tup [])=D.set t (.tup []):=by unfold Am.putA;rw[J]
    rw[hq]at this;exact L _ _ _ ((cp D t (.tup [])).trans k) ⟨o,undef,l,by rw[hd]⟩ this
 ·rename_i u d;obtain⟨S,A⟩:=yG l d;have k:((erD D).set u .any).set t s=U:=by
   have:jp tk ops j (erD D)=(erD D).set u .any:=by unfold jp;rw[d]
   rw[this]at k;exact k
  have V:u∈dz tk ops m:=C5.2 ⟨j,CB.2 M,d⟩;have hs:bH t s=false:=by have:=B2.1 H t (by simp);simpa using this
  unfold wpOp;rw[l];simp only;rw[BZ (by simp[Region.wanted,A])];exact .inl (I.stepT ok hd J S (hr u V) i hs fun D' q w' v p R=>L D' q w' (v.trans k) (p.elim fun y h=>⟨o,y,l,h⟩) R)
def ao (l:Array Bool)(i:Nat):Prop:=l.getD i false=true
theorem ch {l:Array Bool}{i k:Nat}:ao (l.setIfInBounds i true) k↔(k=i∧i<l.size)∨ao l k:=by
 unfold ao;rw[Cv,Cv,Array.getElem?_setIfInBounds];by_cases e:i=k
 ·subst e;by_cases h:i<l.size
  ·simp[h]
  ·simp[h]
 ·rw[Cd e];constructor
  ·exact fun h=>.inr h
  ·rintro(⟨h,_⟩|h)
   ·exact absurd h.symm e
   ·exact h
structure mV (tk:Nat→Bool)(ops:Array Oper)(m:Nat)(anc:List (List Nat)):Prop where
 le:m≤ops.size
 topo:∀j i,i∈aC ops j→i<j
 dst:∀j,j<m→stO ops anc j=none→∃t,(ops[j]?).bind (·.dst)=some t
 nodup:(a9 ops m).Nodup
 seq:∀j,m≤j→j<ops.size→∀i,i<j→i∈aC ops j∨∃k∈aC ops j,i∈anc.getD k []
 tk1:∀k,k<m→∀u,tko tk ops k=some u→∃i,i<m∧i∈anc.getD k []∧(ops[i]?).bind (·.dst)=some u
 tk2:∀k k' u,k<m→k'<m→tko tk ops k=some u→tko tk ops k'=some u→k=k'
 st:∀j h c,stO ops anc j=some (h,c)→(ops[j]?).bind (·.dst)=none∧h∉a9 ops m
 st1:∀i j p,stO ops anc i=some p→stO ops anc j=some p→i=j
 stl:∀p∈jv ops anc,p.1<m∧stO ops anc p.1=some p.2
 stn:∀j h c,stO ops anc j=some (h,c)→tko tk ops j=none
 anc:∀j,j<ops.size→∀i∈anc.getD j [],i∈aC ops j∨∃k∈aC ops j,i∈anc.getD k []
theorem tD {l:List (Nat×Nat×Nat)}(h:(l.map (·.2)).Nodup):∀{i j:Nat}{p:Nat×Nat},l.lookup i=some p→l.lookup j=some p→i=j:=by
 induction l with
 |nil=>intro i j p a;simp at a
 |cons x l f =>
  intro i j p a b;obtain⟨k,q⟩:=x;rw[Cc,Eh]at h;have c:∀{i:Nat},l.lookup i=some p→p∈l.map (·.2):=fun h=>B7.2 ⟨_,bC h,rfl⟩
  rw[List.lookup_cons]at a b;split at a<;>split at b
  ·rename_i d _ e;rw[DS]at d e;rw[d,e]
  ·cases a;exact absurd (c b) h.1
  ·cases b;exact absurd (c a) h.1
  ·exact f h.2 a b
theorem xV {tk:Nat→Bool}{ops:Array Oper}{m:Nat}{anc:List (List Nat)}(h:sf tk ops m anc=true):mV tk ops m anc:=by
 unfold sf at h;rw[Cf]at h;obtain⟨h,a⟩:=h;rw[Cf]at h a;obtain⟨h,z⟩:=h;obtain⟨b,d⟩:=a;have d:=Dz d;have s:∀j h c,stO ops anc j=some (h,c)→(ops[j]?).bind (·.dst)=none∧h∉a9 ops m:=fun j h c e=>by have:=B2.1 b (j,h,c) (bC e);rw[Cf]at this;replace this:=this.2;rw[Cf,C8]at this;refine⟨this.1,fun q=>?_⟩;have t:=this.2;rw[←CJ]at q;simp only at t;rw[q]at t;cases t
 simp only[Cf,B2,CB,C8,Dy,CJ,C4]at h;obtain⟨⟨⟨⟨⟨v,w⟩,A⟩,B⟩,C⟩,D⟩:=h;have r:∀k,k<m→∀u,tko tk ops k=some u→((List.range m).any (fun i=>(anc.getD k []).contains i&&decide ((ops[i]?).bind (·.dst)=some u)) && !((gM tk ops m k).contains u))=true:=fun k r u l=>by have:=B2.1 z k (CB.2 r);rw[l]at this;exact this
 refine⟨v,fun j i hi=>?_,fun j n hs=>Dw.1 ((A j n).resolve_left (by rw[hs];exact CF)),B,fun j G n i hi=>?_,fun k f u l=>?_,fun k k' u f o l x=>?_,s,fun i j p v w=>tD d v w,fun p F=>by
  have:=B2.1 b p F;rw[Cf]at this;exact(Dz this.1).1,fun j h c e=>by
  have:=B2.1 b (j,h,c) (bC e);rw[Cf]at this;exact(Dz this.1).2,fun j n i hi=>C j n i hi⟩
 ·rcases BY j ops.size with g|g
  ·exact w j g i hi
  ·unfold aC at hi;rw[CM g]at hi;cases hi
 ·rcases D j n with g|g
  ·omega
  ·exact g i hi
 ·have:=r k f u l;rw[Cf,C4]at this;obtain⟨⟨i,hi,a⟩,_⟩:=this;rw[Cf,CJ,C8]at a;exact⟨i,CB.1 hi,a.1,a.2⟩
 ·have:=r k f u l;rw[Cf]at this;have a:=this.2;apply Cn;intro y;have:u∈gM tk ops m k:=C5.2 ⟨k',CB.2 o,by rw[Cd (fun e=>y e.symm)];exact x⟩;rw[←CJ]at this;rw[this]at a;cases a
theorem cS {ops:Array Oper}{l:Array Bool}{j:Nat}(f:l.size=ops.size):j∈Region.ready .any ops l↔j<ops.size∧¬ao l j∧∀i∈aC ops j,ao l i:=by
 rw[mem_ready];unfold ao aC;constructor
 ·rintro⟨a,o,c,g⟩;have b:j<ops.size:=(D8.1 c).1;refine⟨b,?_,?_⟩
  ·rw[Cv]at a ⊢;rw[Cs (f ▸ b)]at a ⊢;simp at a ⊢;exact a
  ·rw[c];intro i hi;simp only[B7,CY]at hi;obtain⟨e,⟨d,hb⟩,rfl⟩:=hi;exact g e (by simpa using d) hb
 ·rintro⟨b,a,c⟩;rw[Cs b]at c;refine⟨?_,ops[j],Cs b,fun e d hb=>c e.on ?_⟩
  ·rw[Cv]at a ⊢;rw[Cs (f ▸ b)]at a ⊢;simp at a ⊢;exact a
  ·simp only[B7,CY];exact⟨e,⟨by simpa using d,hb⟩,rfl⟩
theorem oR {P:Program}{ops:Array Oper}{Q:Exit→Act→World→Prop}(c:∀j i,i∈aC ops j→i<j):
  ∀(l:List Oper)(j:Nat)(b:Array Bool)(a:Act)(w:World),b.size=ops.size→(∀i,l[i]?=ops[j+i]?)→(∀i,i<ops.size→(ao b i↔i<j)) →
   (∀k,j≤k→k<ops.size→∀i,i<k→i∈aC ops k∨∃n∈aC ops k,i<n)→wpList P ops Q l a w→wpAny P .any ops Q l.length b a w:=by
 intro l;induction l with
 |nil =>
  intro j b a w hs s f _ h;have t:ops.size≤j:=by have:=s 0;simp at this;exact this
  refine⟨?_,h⟩;apply CW.2;intro i hi;rw[cS hs]at hi;exact hi.2.1 ((f i hi.1).2 (by omega))
 |cons o l A =>
  intro j b a w hs s f m h;have v:ops[j]?=some o:=by simpa using (s 0).symm
  have t:j<ops.size:=(D8.1 v).1;have d:∀i,i∈Region.ready .any ops b↔i=j:=by
   intro i;rw[cS hs];constructor
   ·rintro⟨x,B,y⟩;have C:¬i<j:=fun q=>B ((f i x).2 q)
    rcases BY j i with g|g
    ·rcases m i (by omega) x j g with q|⟨n,z,D⟩
     ·exact absurd ((f j t).1 (y j q)) (Dn _)
     ·have F:=c i n z;have:=(f n (by omega)).1 (y n z);omega
    ·omega
   ·rintro rfl;exact⟨t,fun q=>Dn _ ((f i t).1 q),fun k p=>(f k (by have:=c i k p;omega)).2 (c i k p)⟩
  show _∧_;refine⟨fun q=>?_,fun i hi=>?_⟩
  ·have:=(d j).2 rfl;rw[q]at this;cases this
  ·rw[d]at hi;subst hi;have r:∀a w,wpList P ops Q l a w→wpAny P .any ops Q l.length (b.setIfInBounds i true) a w:=fun a w h=>by
    refine A (i+1) (b.setIfInBounds i true) a w (by simp[hs]) (fun k=>by have:=s (k+1);simpa[C2,DR 1 k]using this) (fun k p=>?_) (fun k p=>m k (by omega)) h;rw[ch,f k p];constructor
    ·rintro(⟨rfl,_⟩|q)<;>omega
    ·intro q;by_cases e:k=i
     ·exact .inl ⟨e,by omega⟩
     ·exact .inr (by omega)
   unfold wpOp;rw[v];simp only;unfold wpList at h;split
   ·rename_i u;rw[BZ u]at h;exact h.imp (Oper.wp_mono r) id
   ·rename_i u;rw[Cd u]at h;exact r _ _ h
section
variable  {tab : Tab}{fns : FuncId → Option Func}{C : Sem1}{tk : Nat → Bool}{ops : Array Oper}{m : Nat}{anc : List (List Nat)}
structure Lex (tk:Nat→Bool)(ops:Array Oper)(m:Nat)(anc:List (List Nat))(V0:US)(ts:Nat→Nat):Prop where
 dst:∀j,j<m→stO ops anc j=none→∃o,ops[j]?=some o∧o.dst=some (ts j)
 inj:∀i j,i<m→j<m→stO ops anc i=none→stO ops anc j=none→ts i=ts j→i=j
 any:∀j,j<m→stO ops anc j=none→V0[ts j]?=some .any
 tk1:∀k,k<m→∀u,tko tk ops k=some u→∃i,i<m∧stO ops anc i=none∧i∈anc.getD k []∧ts i=u
 tk2:∀k k' u,k<m→k'<m→tko tk ops k=some u→tko tk ops k'=some u→k=k'
 lt:∀j,j<m→∀i∈anc.getD j [],i<j
 st:∀j,j<m→∀h c,stO ops anc j=some (h,c)→dO V0 h c=true∧(∀i,i<m→stO ops anc i=none→ts i≠h)∧tko tk ops j=none
 st1:∀i j p,stO ops anc i=some p→stO ops anc j=some p→i=j
structure Shows (tk:Nat→Bool)(ops:Array Oper)(m:Nat)(anc:List (List Nat))(V0:US)(ts:Nat→Nat)(ss:Nat→Sl Unit Unit)(L:Nat→Prop)(U:US):Prop where
 len:U.length=V0.length
 on:∀j,j<m→L j→stO ops anc j=none→(∀k,k<m→L k→tko tk ops k≠some (ts j))→U[ts j]?=some (ss j)
 gone:∀k,k<m→L k→∀u,tko tk ops k=some u→U[u]?=some .any
 off:∀u,(∀j,j<m→L j→stO ops anc j=none→ts j≠u)→(∀k,k<m→L k→tko tk ops k≠some u)→(∀j,j<m→∀c,stO ops anc j≠some (u,c))→U[u]?=V0[u]?
 home:∀j,j<m→∀h c,stO ops anc j=some (h,c)→∀ts0,V0[h]?=some (.box () ts0)→∃tt,U[h]?=some (.box () tt)∧tt.length=ts0.length ∧
  (∀i,i<m→L i→∀c,stO ops anc i=some (h,c)→tt[c]?=some (iR (ss i)))∧∀x,(∀i,i<m→L i→stO ops anc i≠some (h,x))→tt[x]?=ts0[x]?
variable  {V0 : US}{ts : Nat → Nat}{ss : Nat → Sl Unit Unit}{L L' : Nat → Prop}{U U' : US}
theorem Lex.home (a:Lex tk ops m anc V0 ts){j h c:Nat}(d:j<m)(hs:stO ops anc j=some (h,c)):∃ts0 t,V0[h]?=some (.box () ts0)∧ts0[c]?=some t∧t.bare=true:=by obtain⟨b,ts0,t,e,f,g⟩:=dX (a.st j d h c hs).1;exact⟨ts0,t,e,f,g⟩
theorem Lex.tkh (d:Lex tk ops m anc V0 ts){j h c k:Nat}(e:j<m)(hs:stO ops anc j=some (h,c))(f:k<m):tko tk ops k≠some h:=fun q=>by obtain⟨i,hi,a,_,b⟩:=d.tk1 k f h q;exact(d.st j e h c hs).2.1 i hi a b
theorem Shows.any (d:Lex tk ops m anc V0 ts)(h:Shows tk ops m anc V0 ts ss L U){j:Nat}(f:j<m)(a:stO ops anc j=none)(l:¬L j):U[ts j]?=some .any:=by
 by_cases e:∃k,k<m∧L k∧tko tk ops k=some (ts j)
 ·obtain⟨k,n,o,p⟩:=e;exact h.gone k n o _ p
 ·rw[h.off (ts j) (fun k b g i e=>l (d.inj k j b f i a e ▸ g)) (fun k b g q=>e ⟨k,b,g,q⟩) fun k b c q=>(d.st k b _ c q).2.1 j f a rfl];exact d.any j f a
theorem Shows.set (l:Lex tk ops m anc V0 ts)(h:Shows tk ops m anc V0 ts ss L U){j:Nat}(n:j<m)(d:stO ops anc j=none)(J:¬L j)(z:∀k,k<m→L k→∀i∈anc.getD k [],i<m→L i):Shows tk ops m anc V0 ts ss (fun i=>i=j∨L i) ((jp tk ops j U).set (ts j) (ss j)):=by
 have A:ts j<U.length:=by
  have:=h.any l n d J;rcases BY (ts j) U.length with g|g
  ·exact g
  ·rw[BV g]at this;cases this
 have r:(jp tk ops j U).length=U.length:=by
  unfold jp;split
  ·rfl
  ·rw[Dm]
 have b:∀v,tko tk ops j≠some v→(jp tk ops j U)[v]?=U[v]?:=fun v hv=>by
  unfold jp;split
  ·rfl
  ·rename_i u o;rw[B3];intro e;exact hv (e ▸ o)
 refine⟨by rw[Dm,r];exact h.len,fun k a hL s f=>?_,fun k a hL u o=>?_,fun u o f B=>?_,fun k a g c hs ts0 K=>?_⟩
 ·by_cases e:k=j
  ·subst e;rw[B1 (by rw[r];exact A)]
  ·rw[B3 (fun q=>e (l.inj j k n a d s q).symm),b _ (f j n (.inl rfl))];exact h.on k a (hL.resolve_left e) s fun k' C D=>f k' C (.inr D)
 ·obtain⟨i,hi,t,w,y⟩:=l.tk1 k a u o;have F:ts j≠u:=by
   intro q;have G:i=j:=l.inj i j hi n t d (y.trans q.symm);subst G;rcases hL with rfl|hL
   ·exact Dn _ (l.lt _ a _ w)
   ·exact J (z k a hL i w hi)
  rw[B3 F];by_cases e:tko tk ops j=some u
  ·have H:u<U.length:=by
    have:=l.any i hi t;rw[y]at this;rcases BY u V0.length with g|g
    ·rw[h.len];exact g
    ·rw[BV g]at this;cases this
   unfold jp;rw[e];simp only;rw[B1 H]
  ·rw[b u e];rcases hL with rfl|hL
   ·exact absurd o e
   ·exact h.gone k a hL u o
 ·rw[B3 (o j n (.inl rfl) d),b u (f j n (.inl rfl))];exact h.off u (fun k a hL=>o k a (.inr hL)) (fun k a hL=>f k a (.inr hL)) B
 ·obtain⟨tt,M,N,O,P⟩:=h.home k a g c hs ts0 K;refine⟨tt,?_,N,fun i hi hL Q p=>O i hi (hL.resolve_left fun e=>by subst e;rw[d]at p;cases p) Q p,fun x I=>P x fun i hi hL=>I i hi (.inr hL)⟩;rw[B3 ((l.st k a g c hs).2.1 j n d),b g (l.tkh a hs n)];exact M
theorem Shows.setS (w:Lex tk ops m anc V0 ts)(h:Shows tk ops m anc V0 ts ss L U){j g c:Nat}(r:j<m)(a:stO ops anc j=some (g,c)):Shows tk ops m anc V0 ts ss (fun i=>i=j∨L i) (dv U g c (iR (ss j))):=by
 obtain⟨ts0,t0,I,t,_⟩:=w.home r a;obtain⟨tt,M,J,N,O⟩:=h.home j r g c a ts0 I;obtain⟨_,z,A⟩:=w.st j r g c a;have B:c<tt.length:=by
  rcases BY c tt.length with q|q
  ·exact q
  ·rw[J]at q;rw[BV q]at t;cases t
 refine⟨by rw[fJ];exact h.len,fun k f d l o=>?_,fun k f d u s=>?_,fun u s o v=>?_,fun k f K P hs C D=>?_⟩
 ·have p:k≠j:=fun e=>by subst e;rw[a]at l;cases l
  rw[dL (z k f l)];exact h.on k f (d.resolve_left p) l fun k' F G=>o k' F (.inr G)
 ·have p:k≠j:=fun e=>by subst e;rw[A]at s;cases s
  rw[dL (fun e=>w.tkh r a f (by rw[←e];exact s))];exact h.gone k f (d.resolve_left p) u s
 ·rw[dL (fun e=>v j r c (by rw[a,e]))];exact h.off u (fun k f d=>s k f (.inr d)) (fun k f d=>o k f (.inr d)) v
 ·by_cases e:K=g
  ·subst e;rw[I]at D;cases D;refine⟨_,gw M,by rw[Dm];exact J,fun i hi d y b=>?_,fun x n=>?_⟩
   ·by_cases e:y=c
    ·subst e;rw[B1 B,w.st1 i j _ b a]
    ·rw[B3 (fun q=>e q.symm)];refine N i hi (d.resolve_left fun q=>?_) y b;subst q;rw[a]at b;cases b;exact e rfl
   ·have H:x≠c:=fun q=>n j r (.inl rfl) (by rw[a,q])
    rw[B3 (fun q=>H q.symm)];exact O x fun i hi d=>n i hi (.inr d)
  ·obtain⟨Q,R,S,V,W⟩:=h.home k f K P hs C D;refine⟨Q,by rw[dL e];exact R,S,fun i hi d y b=>V i hi (d.resolve_left fun q=>?_) y b,fun x n=>W x fun i hi d=>n i hi (.inr d)⟩;subst q;rw[a]at b;cases b;exact e rfl
theorem oo {δ β:Type}(s:Sl δ β):(iR s).bare=true:=by unfold iR;split<;>rfl
theorem za {j:Nat}{p:Nat×Nat}(h:stO ops anc j=some p):p∈stH ops anc:=B7.2 ⟨_,bC h,rfl⟩
theorem vx (a:∀p∈jv ops anc,p.1<m∧stO ops anc p.1=some p.2){p:Nat×Nat}(h:p∈stH ops anc):∃j,j<m∧stO ops anc j=some p:=by obtain⟨q,b,rfl⟩:=B7.1 h;exact⟨q.1,a q b⟩
theorem Shows.anyH (f:Lex tk ops m anc V0 ts)(k:∀p∈jv ops anc,p.1<m∧stO ops anc p.1=some p.2)(h:Shows tk ops m anc V0 ts ss L U)(G:Shows tk ops m anc V0 ts ss L' U'){j g c:Nat}(l:j<m)(hs:stO ops anc j=some (g,c)):
  (anyC (stH ops anc) U)[g]?=(anyC (stH ops anc) U')[g]?:=by
 obtain⟨ts0,t0,n,_,_⟩:=f.home l hs;obtain⟨tt,H,Z,I,C⟩:=h.home j l g c hs ts0 n;obtain⟨J,o,K,r,b⟩:=G.home j l g c hs ts0 n;obtain⟨t2,M,N⟩:=m5 (stH ops anc) H;obtain⟨O,s,u⟩:=m5 (stH ops anc) o;rw[M,s];congr 2;apply CP;intro x;rw[N x,u x];by_cases v:(g,x)∈stH ops anc
 ·obtain⟨i,hi,a⟩:=vx k v;obtain⟨P,Q,D,w,y⟩:=f.home hi a;rw[n]at D;cases D;have d:∀{U:US}{L:Nat→Prop}{tt:List (T Unit)},(∀i,i<m→L i→∀c,stO ops anc i=some (g,c)→tt[c]?=some (iR (ss i)))→(∀x,(∀i,i<m→L i→stO ops anc i≠some (g,x))→tt[x]?=ts0[x]?)→∃t,tt[x]?=some t∧t.bare=true:=fun {_ L tt} R S=>by
   by_cases F:L i
   ·exact⟨_,R i hi F x a,oo _⟩
   ·refine⟨Q,?_,y⟩;rw[S x fun V W z q=>F (by rw[f.st1 i V _ a q];exact z)];exact w
  obtain⟨t,X,Y⟩:=d (U:=U) I C;obtain⟨t',A,B⟩:=d (U:=U') r b;rw[X,A];simp[v,Y,B]
 ·have e:∀(i:Nat),stO ops anc i≠some (g,x):=fun i q=>v (za q)
  rw[C x fun i _ _=>e i,b x fun i _ _=>e i]
theorem Shows.hide (t:Lex tk ops m anc V0 ts)(f:∀p∈jv ops anc,p.1<m∧stO ops anc p.1=some p.2)(h:Shows tk ops m anc V0 ts ss L U)(s:Shows tk ops m anc V0 ts ss L' U'){j:Nat}(C:¬L j)(v:¬L' j)(D:∀i∈anc.getD j [],i<m→L i∧L' i):
  hid (stH ops anc) (dw tk ops m anc j) U=hid (stH ops anc) (dw tk ops m anc j) U':=by
 unfold hid;refine mI _ (by rw[k9,k9];exact h.len.trans s.len.symm) fun u F=>?_
 by_cases A:∃k,k<m∧∃c,stO ops anc k=some (u,c)
 ·obtain⟨k,a,c,hs⟩:=A;exact h.anyH t f s a hs
 have d:∀k,k<m→∀c,stO ops anc k≠some (u,c):=fun k a c q=>A ⟨k,a,c,q⟩
 have g:∀p∈stH ops anc,p.1≠u:=fun p G q=>by obtain⟨k,a,hs⟩:=vx f G;exact d k a p.2 (by rw[hs, ←q])
 rw[oT _ g,oT _ g];by_cases e:∃i,i<m∧stO ops anc i=none∧ts i=u
 ·obtain⟨i,hi,b,rfl⟩:=e;obtain⟨o,H,hd⟩:=t.dst i hi b;have l:((anc.getD j []).contains i && !((gM tk ops m j).contains (ts i)))=true:=by apply Cn;intro q;apply F;unfold dw;rw[C5];refine⟨i,CB.2 hi,?_⟩;rw[H];simp only[BU,hd];rw[Cd q]
  rw[Cf,CJ]at l;obtain⟨I,n⟩:=l;have r:∀k,k<m→k≠j→tko tk ops k≠some (ts i):=fun k a w q=>by have:ts i∈gM tk ops m j:=C5.2 ⟨k,CB.2 a,by rw[Cd w];exact q⟩;rw[←CJ]at this;rw[this]at n;cases n
  obtain⟨J,K⟩:=D i I hi;rw[h.on i hi J b fun k a x=>r k a fun e=>C (e ▸ x),s.on i hi K b fun k a x=>r k a fun e=>v (e ▸ x)]
 ·have y:∀i,i<m→stO ops anc i=none→ts i≠u:=fun i hi hs q=>e ⟨i,hi,hs,q⟩
  have B:∀k,k<m→tko tk ops k≠some u:=fun k a q=>by obtain⟨i,hi,b,_,z⟩:=t.tk1 k a u q;exact y i hi b z
  rw[h.off u (fun i hi _=>y i hi) (fun k a _=>B k a) d,s.off u (fun i hi _=>y i hi) (fun k a _=>B k a) d]
theorem Shows.ext (z:Lex tk ops m anc V0 ts)(h:Shows tk ops m anc V0 ts ss L U)(j:Shows tk ops m anc V0 ts ss L' U')(l:∀i,i<m→L i)(f:∀i,i<m→L' i):U=U':=by
 apply CP;intro u;by_cases s:∃k,k<m∧tko tk ops k=some u
 ·obtain⟨k,a,t⟩:=s;rw[h.gone k a (l k a) u t,j.gone k a (f k a) u t]
 ·have d:∀k,k<m→tko tk ops k≠some u:=fun k a q=>s ⟨k,a,q⟩
  by_cases e:∃i,i<m∧stO ops anc i=none∧ts i=u
  ·obtain⟨i,hi,b,rfl⟩:=e;rw[h.on i hi (l i hi) b fun k a _=>d k a,j.on i hi (f i hi) b fun k a _=>d k a]
  ·have v:∀i,i<m→stO ops anc i=none→ts i≠u:=fun i hi hs q=>e ⟨i,hi,hs,q⟩
   by_cases w:∃k,k<m∧∃c,stO ops anc k=some (u,c)
   ·obtain⟨k,a,c,hs⟩:=w;obtain⟨ts0,t0,y,_,_⟩:=z.home a hs;obtain⟨tt,A,G,B,C⟩:=h.home k a u c hs ts0 y;obtain⟨D,n,F,o,p⟩:=j.home k a u c hs ts0 y;rw[A,n];congr 2;apply CP;intro x;by_cases r:∃i,i<m∧stO ops anc i=some (u,x)
    ·obtain⟨i,hi,b⟩:=r;rw[B i hi (l i hi) x b,o i hi (f i hi) x b]
    ·rw[C x fun i hi _ q=>r ⟨i,hi,q⟩,p x fun i hi _ q=>r ⟨i,hi,q⟩]
   ·have g:∀k,k<m→∀c,stO ops anc k≠some (u,c):=fun k a c q=>w ⟨k,a,c,q⟩
    rw[h.off u (fun i hi _=>v i hi) (fun k a _=>d k a) g,j.off u (fun i hi _=>v i hi) (fun k a _=>d k a) g]
theorem Shows.nr (y:Lex tk ops m anc V0 ts)(h:Shows tk ops m anc V0 ts ss L U)(o:∀u∈dz tk ops m,∀s∈V0,bH u s=false)(hs:∀i,i<m→stO ops anc i=none→∀u∈dz tk ops m,bH u (ss i)=false):
  ∀u∈dz tk ops m,∀s∈U,bH u s=false:=by
 intro u l s n;obtain⟨v,hv⟩:=BX n;by_cases p:∃k,k<m∧L k∧tko tk ops k=some v
 ·obtain⟨k,b,d,q⟩:=p;rw[h.gone k b d v q]at hv;cases hv;rfl
 ·have g:∀k,k<m→L k→tko tk ops k≠some v:=fun k b d q=>p ⟨k,b,d,q⟩
  by_cases e:∃i,i<m∧L i∧stO ops anc i=none∧ts i=v
  ·obtain⟨i,hi,d,a,rfl⟩:=e;rw[h.on i hi d a g]at hv;cases hv;exact hs i hi a u l
  ·by_cases r:∃k,k<m∧∃c,stO ops anc k=some (v,c)
   ·obtain⟨k,b,c,j⟩:=r;obtain⟨ts0,t0,g0,_,_⟩:=y.home b j;obtain⟨tt,z,D,A,B⟩:=h.home k b v c j ts0 g0;rw[z]at hv;cases hv;have hb:=o u l _ (BR g0);simp only[bH,Dp]at hb ⊢;intro t C;obtain⟨x,hx'⟩:=BX C;by_cases w:∃i,i<m∧L i∧stO ops anc i=some (v,x)
    ·obtain⟨i,hi,f,a⟩:=w;rw[A i hi f x a]at hx';cases hx';unfold iR;split<;>simp[T.lentTo]
    ·rw[B x fun i hi f q=>w ⟨i,hi,f,q⟩]at hx';exact hb t (BR hx')
   ·rw[h.off v (fun i hi d a q=>e ⟨i,hi,d,a,q⟩) g fun k b c q=>r ⟨k,b,c,q⟩]at hv;exact o u l s (BR hv)
theorem ve (a:mV tk ops m anc):∀j,j<ops.size→∀i∈anc.getD j [],i<j:=by
 intro j;induction j using Nat.strongRecOn with
 |ind j b =>
  intro c i hi;rcases a.anc j c i hi with g|⟨k,d,e⟩
  ·exact a.topo j i g
  ·have:=a.topo j k d;have:=b k this (by omega) i e;omega
theorem zn (a:mV tk ops m anc):∀j,j<m→∀i∈anc.getD j [],i<j:=fun j b=>ve a j (by have:=a.le;omega)
theorem me (a:mV tk ops m anc){L:Nat→Prop}(hc:∀k,L k→∀i∈aC ops k,L i):∀j,j<ops.size→(∀i∈aC ops j,L i)→∀i∈anc.getD j [],L i:=by
 intro j;induction j using Nat.strongRecOn with
 |ind j d =>
  intro e b i hi;rcases a.anc j e i hi with g|⟨k,c,f⟩
  ·exact b i g
  ·have h:=a.topo j k c;exact d k h (by omega) (hc k (b k c)) i f
theorem Shows.congr {ss':Nat→Sl Unit Unit}(h:Shows tk ops m anc V0 ts ss L U)(e:∀i,i<m→L i→ss' i=ss i):Shows tk ops m anc V0 ts ss' L U :=
 ⟨h.len,fun i hi a hs b=>by rw[e i hi a];exact h.on i hi a hs b,h.gone,h.off,fun j d g c hs ts0 f=>by obtain⟨tt,k,l,n,o⟩:=h.home j d g c hs ts0 f;exact⟨tt,k,l,fun i hi a c hc=>by rw[e i hi a];exact n i hi a c hc,o⟩⟩
theorem Shows.imp (h:Shows tk ops m anc V0 ts ss L U)(e:∀i,i<m→(L i↔L' i)):Shows tk ops m anc V0 ts ss L' U :=
 ⟨h.len,fun i hi a hs d=>h.on i hi ((e i hi).2 a) hs fun k b f=>d k b ((e k b).1 f),fun k b a=>h.gone k b ((e k b).2 a),fun u n d l=>h.off u (fun i hi a=>n i hi ((e i hi).1 a)) (fun k b a=>d k b ((e k b).1 a)) l,fun j o g c hs ts0 p=>by obtain⟨tt,q,r,s,t⟩:=h.home j o g c hs ts0 p;exact⟨tt,q,r,fun i hi a c hc=>s i hi ((e i hi).2 a) c hc,fun x v=>t x fun i hi a=>v i hi ((e i hi).1 a)⟩⟩
theorem Shows.zero (a:∀i,¬L i):Shows tk ops m anc V0 ts ss L V0 :=
 ⟨rfl,fun j _ q=>absurd q (a j),fun k _ q=>absurd q (a k),fun _ _ _ _=>rfl,fun j _ g c _ ts0 b=>⟨ts0,b,rfl,fun i _ q=>absurd q (a i),fun _ _=>rfl⟩⟩
theorem Shows.one (b:Lex tk ops m anc V0 ts){j:Nat}(l:j<m){V u:US}(n:Shows tk ops m anc V0 ts ss (fun i=>i<j) V)(e:stepM tab fns C tk ops m anc V j=some u):
  ∃s,evM tab fns C tk ops m anc j V=some s∧∀a:Nat→Sl Unit Unit,a j=s→(∀i,i<j→a i=ss i)→Shows tk ops m anc V0 ts a (fun i=>i<j+1) u:=by
 have d:∀{a:Nat→Sl Unit Unit}{W:US},Shows tk ops m anc V0 ts a (fun i=>i=j∨i<j) W→Shows tk ops m anc V0 ts a (fun i=>i<j+1) W:=fun h=>h.imp fun i _=>by constructor<;>intro q<;>omega
 unfold stepM at e;split at e
 ·rename_i g c hs;split at e
  case isFalse=>cases e
  rw[BS]at e;obtain⟨s,p,rfl⟩:=e;refine⟨s,p,fun a r t=>d ?_⟩;have:=(n.congr (ss':=a) fun i _ f=>t i f).setS b l hs;rw[r]at this;exact this
 ·rename_i hs;obtain⟨o,v,hd⟩:=b.dst j l hs;rw[v,BU,hd]at e;simp only at e;rw[n.any b l hs (Dn j)]at e;simp only[BS]at e;obtain⟨s,p,rfl⟩:=e;refine⟨s,p,fun a r t=>d ?_⟩;have:=(n.congr (ss':=a) fun i _ f=>t i f).set b l hs (Dn j) (fun k w f i hi _=>Nat.lt_trans (b.lt k w i hi) f);rw[r]at this;exact this
theorem qa:∀(n j:Nat){ss:Nat→Sl Unit Unit}{V U:US},Lex tk ops m anc V0 ts→j+n=m→Shows tk ops m anc V0 ts ss (fun i=>i<j) V →
  gZ tab fns C tk ops m anc n j V=some U→∃ss',(∀i,i<j→ss' i=ss i)∧Shows tk ops m anc V0 ts ss' (fun i=>i<m) U∧∀i,j≤i→i<m→∃h,Shows tk ops m anc V0 ts ss' (fun k=>k<i) h∧evM tab fns C tk ops m anc i h=some (ss' i)
 | 0,j,ss,V,U,d,p,b,e=>by
  cases e;have:j=m:=by omega
  subst this;exact⟨ss,fun i _=>rfl,b,fun i c l=>by omega⟩
 |n+1,j,ss,V,U,d,p,b,e=>by
  have f:j<m:=by omega
  simp only[gZ,BT]at e;obtain⟨y,q,r⟩:=e;obtain⟨s,t,u⟩:=b.one d f q;let a:Nat→Sl Unit Unit:=fun i=>if i=j then s else ss i
  have o:a j=s:=by simp[a]
  have g:∀i,i<j→a i=ss i:=fun i hi=>by
   have:i≠j:=by omega
   simp[a,this]
  obtain⟨ss',c,l,v⟩:=qa n (j+1) d (by omega) (u a o g) r;refine⟨ss',fun i hi=>(c i (by omega)).trans (g i hi),l,fun i hi w=>?_⟩;by_cases e:i=j
  ·subst e;refine⟨V,b.congr fun k _ x=>(c k (by omega)).trans (g k x),?_⟩;rw[c i (by omega),o];exact t
  ·exact v i (by omega) w
theorem xh {j:Nat}(h:hid (stH ops anc) (dw tk ops m anc j) U=hid (stH ops anc) (dw tk ops m anc j) U'):evM tab fns C tk ops m anc j U=evM tab fns C tk ops m anc j U':=by unfold evM;rw[h]
def sn (tk:Nat→Bool)(ops:Array Oper)(anc:List (List Nat))(ts:Nat→Nat)(ss:Nat→Sl Unit Unit)(j:Nat)(U:US):US :=
 match stO ops anc j with
 |some (g,c)=>dv U g c (iR (ss j))
 |none=>(jp tk ops j U).set (ts j) (ss j)
theorem Shows.out (b:Lex tk ops m anc V0 ts)(h:Shows tk ops m anc V0 ts ss L U){j:Nat}(d:j<m)(e:¬L j)(a:∀k,k<m→L k→∀i∈anc.getD k [],i<m→L i):Shows tk ops m anc V0 ts ss (fun i=>i=j∨L i) (sn tk ops anc ts ss j U):=by
 unfold sn;split
 ·rename_i g c hs;exact h.setS b d hs
 ·rename_i hs;exact h.set b d hs e a
theorem Shows.bare (f:Lex tk ops m anc V0 ts)(h:Shows tk ops m anc V0 ts ss L U){j g c:Nat}(d:j<m)(hs:stO ops anc j=some (g,c)):dO U g c=true:=by
 obtain⟨ts0,t0,k,hc,hb⟩:=f.home d hs;obtain⟨tt,l,p,n,o⟩:=h.home j d g c hs ts0 k;unfold dO;rw[l];simp only;by_cases e:∃i,i<m∧L i∧stO ops anc i=some (g,c)
 ·obtain⟨i,hi,a,b⟩:=e;rw[n i hi a c b];exact oo _
 ·rw[o c fun i hi a q=>e ⟨i,hi,a,q⟩,hc];exact hb
theorem ua (a:Lex tk ops m anc V0 ts)(d:∀p∈jv ops anc,p.1<m∧stO ops anc p.1=some p.2)(hv:∀i,i<m→∃e,Shows tk ops m anc V0 ts ss (fun k=>k<i) e∧evM tab fns C tk ops m anc i e=some (ss i))
  (h:Shows tk ops m anc V0 ts ss L U) {j:Nat} (b:j<m) (f:¬L j) (q:∀k∈anc.getD j [],L k):stepM tab fns C tk ops m anc U j=some (sn tk ops anc ts ss j U):=by
 obtain⟨e,r,l⟩:=hv j b;have n:=xh (tab:=tab) (fns:=fns) (C:=C) (h.hide a d r f (Dn j) (fun i hi _=>⟨q i hi,a.lt j b i hi⟩));unfold stepM sn;cases hs:stO ops anc j with
 |some p =>obtain⟨g,c⟩:=p;simp only;rw[BZ (h.bare a b hs),n,l];rfl
 |none =>obtain⟨o,s,hd⟩:=a.dst j b hs;rw[s,BU,hd];simp only;rw[h.any a b hs f];simp only;rw[n,l];rfl
theorem s8 {j:Nat}(a:stO ops anc j=none){s:Sl Unit Unit}(h:evM tab fns C tk ops m anc j U=some s):∀u∈dz tk ops m,bH u s=false:=by
 unfold evM at h;split at h
 case h_2=>cases h
 rw[a]at h;simp only at h;split at h
 case h_2=>cases h
 rename_i o d t hd;rw[BT]at h;obtain⟨s',_,b⟩:=h;split at b
 case isFalse=>cases b
 rename_i hc;cases b;intro u c;have:=B2.1 hc u (Dq _ c);simpa using this
end
theorem nj {l:Array Bool}{rem:List Nat}{n j:Nat}(hs:l.size=n)(a:rem.Nodup)(f:∀i,i∈rem↔i<n∧¬ao l i)(c:j∈rem):
  (rem.erase j).Nodup∧(∀i,i∈rem.erase j↔i<n∧¬ao (l.setIfInBounds j true) i)∧(rem.erase j).length+1=rem.length:=by
 refine⟨a.erase j,fun i=>?_,?_⟩
 ·rw[a.mem_erase_iff,f i,ch];have:=(f j).1 c;constructor
  ·rintro⟨d,b,h⟩;exact⟨b,fun q=>q.elim (fun g=>d g.1) h⟩
  ·rintro⟨d,b⟩;exact⟨fun e=>b (.inl ⟨e,by omega⟩),d,fun q=>b (.inr q)⟩
 ·have:=Ec c;have:=List.length_pos_of_mem c;omega
theorem xM {P:Program}{tab:Tab}(ok:ax P tab){fns:FuncId→Option Func}(hf:dB P fns){B:Base}{C:Sem1}{cx:Cx}(hC:cZ P B C cx){ops:Array Oper}{m:Nat}{anc:List (List Nat)}{Q:Exit→Act→World→Prop}
  {tk:Nat→Bool} (e:mV tk ops m anc) {V0:US} {ts:Nat→Nat} {ss:Nat→Sl Unit Unit} (K:Lex tk ops m anc V0 ts) (hv:∀i,i<m→∃M,Shows tk ops m anc V0 ts ss (fun k=>k<i) M∧evM tab fns C tk ops m anc i M=some (ss i))
  (h0:∀u∈dz tk ops m,∀s∈V0,bH u s=false) {N:US} (O:Shows tk ops m anc V0 ts ss (fun i=>i<m) N) {T:Act→Prop} (hT:∀o∈ops.toList,∀a y,T a→T (a.put o.dst y)) (hQ:∀D a w,Inv cx D [] a.tmps w→T a→erD D=N→wpList P ops Q (ops.toList.drop m) a w):
  ∀(n:Nat)(rem:List Nat)(b:Array Bool)(D:DSt)(a:Act)(w:World),rem.length=n→b.size=ops.size→rem.Nodup→(∀i,i∈rem↔i<ops.size∧¬ao b i) →
   (∀i,m≤i→i<ops.size→¬ao b i)→(∀k,ao b k→∀i∈aC ops k,ao b i)→Inv cx D [] a.tmps w→T a→Shows tk ops m anc V0 ts ss (ao b) (erD D)→wpAny P .any ops Q n b a w:=by
 intro n;have tail:∀(rem:List Nat)(b:Array Bool)(D:DSt)(a:Act)(w:World),b.size=ops.size→rem.Nodup→(∀i,i∈rem↔i<ops.size∧¬ao b i) →
   (∀i,m≤i→i<ops.size→¬ao b i)→(∀i,i<m→ao b i)→Inv cx D [] a.tmps w→T a→Shows tk ops m anc V0 ts ss (ao b) (erD D)→wpAny P .any ops Q rem.length b a w:=by
  intro rem b D a w hs f l d c I hd p;have F:(ops.toList.drop m).length=rem.length:=by
   have A:rem.Perm ((List.range ops.size).drop m):=by
    refine(Do f (List.nodup_range.sublist (DG _ _))).2 fun i=>?_
    rw[l i,List.mem_iff_getElem?];constructor
    ·rintro⟨r,G⟩;have:m≤i:=by
      rcases BY i m with g|g
      ·exact absurd (c i g) G
      ·exact g
     exact⟨i-m,by rw[CG,C0 (by omega)];congr 1;omega⟩
    ·rintro⟨k,hk⟩;rw[CG]at hk;have t:m+k<ops.size:=by
      rcases BY (m+k) ops.size with g|g
      ·exact g
      ·rw[BV (by simpa using g)]at hk;cases hk
     rw[C0 t]at hk;cases hk;exact⟨t,d _ (by omega) t⟩
   have:=A.length_eq;simp at this ⊢;omega
  rw[←F];have hE:erD D=N:=p.ext K O c (fun i hi=>hi);refine oR (e.topo) (ops.toList.drop m) m b a w hs (fun i=>by rw[CG];simp) (fun i hi=>?_) (fun k A v i hi=>(e.seq k A v i hi).imp id fun⟨h,r,G⟩=>⟨h,r,ve e h (by have:=e.topo k h r;omega) i G⟩) (hQ D a w I hd hE);constructor
  ·intro q;rcases BY i m with g|g
   ·exact g
   ·exact absurd q (d i g hi)
  ·exact c i
 induction n with
 |zero =>
  intro rem b D a w R hs f l d hc I hd p;have he:rem=[]:=C1.1 R;have:=tail rem b D a w hs f l d (fun i hi=>by
   by_cases q:ao b i
   ·exact q
   ·have:=(l i).2 ⟨by have:=e.le;omega,q⟩;rw[he]at this;cases this) I hd p
  rw[he]at this;exact this
 |succ n ih =>
  intro rem b D a w R hs f l d hc I hd p;by_cases c:∀i,i<m→ao b i
  ·have:=tail rem b D a w hs f l d c I hd p;rw[R]at this;exact this
  ·have x:∃j,j<m∧¬ao b j∧∀i,i<j→ao b i:=by
    have S:∃j,j<m∧¬ao b j:=by apply Cn;intro q;exact c fun i hi=>Cn fun U=>q ⟨i,hi,U⟩
    obtain⟨j,A,v⟩:=S;induction j using Nat.strongRecOn with
    |ind j V =>
     by_cases q:∀i,i<j→ao b i
     ·exact⟨j,A,v,q⟩
     ·have:∃i,i<j∧¬ao b i:=Cn fun U=>q fun i hi=>Cn fun W=>U ⟨i,hi,W⟩
      obtain⟨i,hi,X⟩:=this;exact V i hi (by omega) X
   obtain⟨H,A,v,h3⟩:=x;show _∧_;refine⟨fun q=>?_,fun j hj=>?_⟩
   ·have:H∈Region.ready .any ops b:=(cS hs).2 ⟨by have:=e.le;omega,v,fun i hi=>h3 i (e.topo H i hi)⟩;rw[q]at this;cases this
   ·obtain⟨Y,Z,L⟩:=(cS hs).1 hj;have z:j<m:=by
     rcases BY j m with g|g
     ·exact g
     ·rcases e.seq j g Y H (by omega)with q|⟨h,r,G⟩
      ·exact absurd (L H q) v
      ·exact absurd (me e (fun k hk i hi=>hc k hk i hi) h (by have:=e.topo j h r;omega) (fun i hi=>hc h (L h r) i hi) H G) v
    have J:∀k∈anc.getD j [],ao b k:=me e (fun k hk i hi=>hc k hk i hi) j Y L;have F0:=ua K e.stl hv p z Z J;have F1:=p.nr K h0 (fun i hi F2=>by obtain⟨M,_,q⟩:=hv i hi;exact s8 F2 q);refine I.stepM ok hf hC z F1 F0 fun D' a' w' e1 e2 e3=>?_
    have F3:j∈rem:=(l j).2 ⟨Y,Z⟩;obtain⟨h,k2,k3⟩:=nj hs f l F3;refine ih (rem.erase j) (b.setIfInBounds j true) D' a' w' (by omega) (by simp[hs]) h k2 (fun i h4 h5 q=>?_) (fun k hk i hi=>?_) e3 (by obtain⟨o,y,r,rfl⟩:=e2;exact hT o (BR (by simpa using r)) a y hd) ?_
    ·rw[ch]at q;rcases q with⟨q,_⟩|q
     ·omega
     ·exact d i h4 h5 q
    ·rw[ch]at hk ⊢;rcases hk with⟨rfl,_⟩|hk
     ·exact .inr (L i hi)
     ·exact .inr (hc k hk i hi)
    ·rw[e1];refine(p.out K z Z (fun k hk hL i hi _=>me e (fun k hk i hi=>hc k hk i hi) k (by have:=e.le;omega) (fun i hi=>hc k hL i hi) i hi)).imp fun i _=>?_
     rw[ch];constructor
     ·rintro(q|q)
      ·exact .inl ⟨q,by omega⟩
      ·exact .inr q
     ·rintro(⟨q,_⟩|q)
      ·exact .inl q
      ·exact .inr q
theorem cj {n i:Nat}:¬ao (Array.replicate n false) i:=by intro q;unfold ao at q;rw[Cv,Array.getElem?_replicate]at q;split at q<;>cases q
theorem jO {α β:Type}{f:α→Option β}:∀{l:List α},(l.filterMap f).Nodup→∀{i j:α}{x:β},i∈l→j∈l→f i=some x→f j=some x→i=j
 |[],_,i,j,x,hi,_,_,_=>by cases hi
 |a::l,n,i,j,x,hi,hj,c,d=>by
  have p:∀{k:α},k∈l→f k=some x→x∈l.filterMap f:=fun o h=>C5.2 ⟨_,o,h⟩
  cases m:f a with
  |none =>
   rw[DX,m]at n;have g:∀{k:α},k∈a::l→f k=some x→k∈l:=fun o h=>(Cq.1 o).resolve_left fun e=>by rw[e,m]at h;cases h
   exact jO n (g hi c) (g hj d) c d
  |some z =>
   rw[DX,m]at n;have b:=Eh.1 n;rcases Cq.1 hi with rfl|hi<;>rcases Cq.1 hj with rfl|hj
   ·rfl
   ·rw[m]at c;cases c;exact absurd (p hj d) b.1
   ·rw[m]at d;cases d;rename_i q;exact absurd (p q c) b.1
   ·exact jO b.2 hi hj c d
theorem xu {tk:Nat→Bool}{ops:Array Oper}{m:Nat}{anc:List (List Nat)}(n:∀j,j<m→stO ops anc j=none→∃t,(ops[j]?).bind (·.dst)=some t)(y:(a9 ops m).Nodup)
  (o:∀k,k<m→∀u,tko tk ops k=some u→∃i,i<m∧i∈anc.getD k []∧(ops[i]?).bind (·.dst)=some u) (r:∀k k' u,k<m→k'<m→tko tk ops k=some u→tko tk ops k'=some u→k=k') (z:∀j,j<m→∀i∈anc.getD j [],i<j)
  (s:∀j h c,stO ops anc j=some (h,c)→(ops[j]?).bind (·.dst)=none∧h∉a9 ops m) (v:∀i j p,stO ops anc i=some p→stO ops anc j=some p→i=j) (w:∀j h c,stO ops anc j=some (h,c)→tko tk ops j=none) {V0:US} (x:∀t∈a9 ops m,V0[t]?=some .any)
  (g:∀j h c,stO ops anc j=some (h,c)→dO V0 h c=true):∃ts,Lex tk ops m anc V0 ts:=by
 have d:∀j,j<m→stO ops anc j=none→(ops[j]?).bind (·.dst)=some (((ops[j]?).bind (·.dst)).getD 0):=fun j a hs=>by obtain⟨t,C⟩:=n j a hs;simp[C]
 have f:∀j,j<m→stO ops anc j=none→((ops[j]?).bind (·.dst)).getD 0∈a9 ops m:=fun j a hs=>C5.2 ⟨j,CB.2 a,d j a hs⟩
 refine⟨fun j=>((ops[j]?).bind (·.dst)).getD 0,⟨fun j a hs=>?_,fun i j hi a b A h=>?_,fun j a hs=>x _ (f j a hs),fun k D u F=>?_,r,z,fun j a h c hs=>⟨g j h c hs,fun i hi b e=>(s j h c hs).2 (e ▸ f i hi b),?_⟩,v⟩⟩
 ·have:=d j a hs;rw[BT]at this;exact this
 ·exact jO y (CB.2 hi) (CB.2 a) (d i hi b) (by rw[d j a A];exact Ds some h.symm)
 ·obtain⟨i,hi,B,l⟩:=o k D u F;have b:stO ops anc i=none:=by
   cases q:stO ops anc i with
   |none=>rfl
   |some p=>rw[(s i p.1 p.2 q).1]at l;cases l
  exact⟨i,hi,b,B,by rw[l];rfl⟩
 ·exact w j h c hs
theorem Inv.runD {P:Program}{tab:Tab}(ok:ax P tab)(J:P.follows .mixedOrders=true){fns:FuncId→Option Func}(hf:dB P fns){B:Base}{C:Sem1}{cx:Cx}(z:cZ P B C cx){tk:Nat→Bool}{ops:Array Oper}{m:Nat}{anc:List (List Nat)}
  {Q:Exit→Act→World→Prop}  {U:US} {T:Act→Prop} (A:∀o∈ops.toList,∀a y,T a→T (a.put o.dst y)) (K:∀D' r w',erD D'=U→T r→Inv cx D' [] r.tmps w'→Q .normal r w') {id:Nat} {D:DSt} {a:Act} {w:World} (I:Inv cx D [] a.tmps w) (hd:T a)
  (e:Am.runD tab fns C tk ops m anc (erD D)=some U):(Code.region id ops true).wp P Q a w:=by
 unfold Am.runD at e;split at e
 case isFalse=>cases e
 rename_i d;rw[Cf]at d;obtain⟨d,f⟩:=d;rw[Cf,Cf]at d;obtain⟨⟨d,l⟩,g⟩:=d;have b:=xV d;rw[BT]at e;obtain⟨Z,v,L⟩:=e;rw[←iT]at v g f;have F:=(I.drewn).killAll (a9 ops m);generalize x:Am.killAll (a9 ops m) D=n at v F g f;obtain⟨ts,G⟩:∃ts,Lex tk ops m anc (erD n) ts:=xu b.dst b.nodup b.tk1 b.tk2 (zn b) b.st b.st1 b.stn (fun t H=>by
  rw[←x,iT];refine lj _ ?_ (.inl H);simpa using B2.1 l _ H) (fun j h c hs=>by
  have:=B2.1 f (j,h,c) (bC hs);exact this)
 have M:Shows tk ops m anc (erD n) ts (fun _=>.any) (fun i=>i<0) (erD n):=Shows.zero (fun i q=>by omega);obtain⟨ss,_,N,O⟩:=qa m 0 G (by omega) M v;have p:∀u∈dz tk ops m,∀s∈erD n,bH u s=false:=fun u R s hs=>by have:=B2.1 (B2.1 g s hs) u R;simpa using this
 refine wp_region_any J ?_;refine xM ok hf z b G (fun i hi=>O i (DI i) hi) p N (T:=T) A (fun D' r w' S V W=>?_) ops.size (List.range ops.size) _ n a _ (by simp) (by simp) DM (fun i=>?_) (fun i h1 h2 q=>?_) (fun k X=>?_) F hd ?_
 ·exact Inv.runOps (tk:=tk) ok hf z K _ m (fun o Y=>A o (CT Y)) S V (by rw[W];exact L)
 ·rw[CB];constructor
  ·intro q;exact⟨q,cj⟩
  ·exact fun q=>q.1
 ·exact cj q
 ·exact absurd X cj
 ·exact Shows.zero (fun i q=>absurd q cj)
def ls (σ:List Nat)(o:Oper):Oper:={ o with after:=o.after.map fun e=>{ e with on:=σ.idxOf e.on },guard:=o.guard.map fun g=>(σ.idxOf g.1,g.2) }
def bm (σ:List Nat)(ops:Array Oper):Array Oper:=((σ.filterMap fun j=>ops[j]?).map (ls σ)).toArray
def sq (σ:List Nat)(n:Nat):Bool:=decide σ.Nodup&&σ.all (fun j=>decide (j<n))&&(List.range n).all (fun j=>σ.contains j)
structure PermOk (σ:List Nat)(n:Nat):Prop where
 nodup:σ.Nodup
 lt:∀j∈σ,j<n
 mem:∀j,j<n→j∈σ
theorem yB {σ:List Nat}{n:Nat}(h:sq σ n=true):PermOk σ n:=by unfold sq at h;simp only[Cf,C8,B2,CB,CJ]at h;exact⟨h.1.1,h.1.2,h.2⟩
section
variable  {σ : List Nat}{ops : Array Oper}
theorem qf (h : ∀ j ∈ σ, j < ops.size) : bm σ ops = ((σ.map fun j => ls σ (ops[j]?.getD ⟨none, .alloc 0, 0, "", #[], none⟩))).toArray := by
 unfold bm;congr 1;have : ∀ l : List Nat, (∀ j ∈ l, j < ops.size) → (l.filterMap fun j => ops[j]?).map (ls σ) = l.map fun j => ls σ (ops[j]?.getD ⟨none, .alloc 0, 0, "", #[], none⟩) := by
  intro l a;induction l with
  |nil=>rfl
  |cons j l c =>have b:=Cs (a j (by simp));rw[DX,b];simp only[Cc,b,DJ];rw[c fun k d=>a k (by simp[d])]
 exact this σ h
theorem PermOk.len {n:Nat}(h:PermOk σ n):σ.length=n:=by
 have a:σ.Perm (List.range n):=(Do h.nodup DM).2 fun j=>by rw[CB];exact⟨h.lt j,h.mem j⟩
 rw[a.length_eq,List.length_range]
theorem nF (h:PermOk σ ops.size)(j:Nat):(bm σ ops)[σ.idxOf j]?=(ops[j]?).map (ls σ):=by
 rw[qf h.lt];rcases BY j ops.size with g|g
 ·have a:=h.mem j g;have hi:σ.idxOf j<σ.length:=Di.2 a;rw[Cs g];simp[B6,BW hi,D6 hi,Cs g]
 ·have a:j∉σ:=fun q=>by have:=h.lt j q;omega
  rw[CM g,List.idxOf_eq_length a];simp[h.len]
theorem qg (h:PermOk σ ops.size):(bm σ ops).size=ops.size:=by rw[qf h.lt];simp[h.len]
theorem xy (h:PermOk σ ops.size)(j:Nat):aC (bm σ ops) (σ.idxOf j)=(aC ops j).map (σ.idxOf ·):=by
 unfold aC;rw[nF h];cases ops[j]? with
 |none=>rfl
 |some o =>simp only[BQ,ls,Array.toList_map,Ct,DV];congr 1
theorem uY (h:PermOk σ ops.size)(tm:Array Value)(j:Nat):yielded (bm σ ops) tm (σ.idxOf j)=yielded ops tm j:=by
 unfold yielded;rw[nF h];cases ops[j]? with
 |none=>rfl
 |some o=>rfl
theorem tN (h:PermOk σ ops.size)(tm:Array Value)(o:Oper):Region.wanted (ls σ o) (yielded (bm σ ops) tm)=Region.wanted o (yielded ops tm):=by
 unfold Region.wanted ls;cases o.guard with
 |none=>rfl
 |some g =>obtain⟨g,a⟩:=g;simp only[BQ];rw[uY h]
theorem zf {P:Program}{o:Oper}{a:Act}{w:World}{K:Act→World→Prop}{Q:Exit→Act→World→Prop}:(ls σ o).wp P a w K Q=o.wp P a w K Q:=rfl
theorem xA {P:Program}{o:Oper}{a:Act}{w:World}:(ls σ o).asks P a w=o.asks P a w:=rfl
theorem wB {P:Program}{Q:Exit→Act→World→Prop}(h:PermOk σ ops.size):∀(k:Nat)(c b:Array Bool)(a:Act)(w:World),c.size=ops.size→b.size=ops.size→(∀j,ao c j↔ao b (σ.idxOf j)) →
  wpAny P .any (bm σ ops) Q k b a w→wpAny P .any ops Q k c a w:=by
 have hz:=qg h;have u:∀{c b:Array Bool},c.size=ops.size→b.size=ops.size→(∀j,ao c j↔ao b (σ.idxOf j))→∀j,j∈Region.ready .any ops c↔(j<ops.size∧σ.idxOf j∈Region.ready .any (bm σ ops) b):=by
  intro c b hs d g j;rw[cS hs,cS (by rw[d,hz]),hz,xy h];constructor
  ·rintro⟨t,f,v⟩;have hi:σ.idxOf j<ops.size:=by rw[←h.len];exact Di.2 (h.mem j t)
   refine⟨t,hi,fun q=>f ((g j).2 q),fun i hi=>?_⟩;obtain⟨D,x,rfl⟩:=B7.1 hi;exact(g D).1 (v D x)
  ·rintro⟨t,_,f,v⟩;exact⟨t,fun q=>f ((g j).1 q),fun i hi=>(g i).2 (v _ (C9 hi))⟩
 have l:∀{c b:Array Bool},c.size=ops.size→b.size=ops.size→(∀j,ao c j↔ao b (σ.idxOf j))→(Region.ready .any ops c=[]↔Region.ready .any (bm σ ops) b=[]):=by
  intro c b hs d g;rw[CW,CW];constructor
  ·intro q p F;have r:=((cS (by rw[d,hz])).1 F).1;rw[hz, ←h.len]at r;have e:σ.idxOf σ[p]=p:=h.nodup.idxOf_getElem p r;exact q σ[p] ((u hs d g _).2 ⟨h.lt _ (Dt _),by rw[e];exact F⟩)
  ·exact fun q j y=>q _ ((u hs d g j).1 y).2
 intro k;induction k with
 |zero =>intro c b a w hs d g s;exact⟨(l hs d g).2 s.1,s.2⟩
 |succ k I =>
  intro c b a w hs d g s;refine⟨fun q=>s.1 ((l hs d g).1 q),fun j y=>?_⟩;obtain⟨m,z⟩:=(u hs d g j).1 y;have f:=s.2 _ z;have n:∀a w,wpAny P .any (bm σ ops) Q k (b.setIfInBounds (σ.idxOf j) true) a w→wpAny P .any ops Q k (c.setIfInBounds j true) a w:=fun a w=>by
   refine I _ _ a w (by simp[hs]) (by simp[d]) fun i=>?_
   rw[ch,ch,g i,hs,d];have hi:σ.idxOf j<ops.size:=by rw[←h.len];exact Di.2 (h.mem j m)
   constructor
   ·rintro(⟨rfl,_⟩|q)
    ·exact .inl ⟨rfl,hi⟩
    ·exact .inr q
   ·rintro(⟨e,_⟩|q)
    ·refine .inl ⟨?_,m⟩;have A:=h.mem j m;have B:i∈σ:=by apply Cn;intro q;rw[List.idxOf_eq_length q,h.len]at e;omega
     have G:=D6 (Di.2 B);have J:=D6 (Di.2 A);simp only[e]at G;exact G.symm.trans J
    ·exact .inr q
  unfold wpOp at f ⊢;rw[nF h]at f;cases H:ops[j]? with
  |none=>rw[H]at f;exact n _ _ f
  |some o =>
   rw[H]at f;simp only[BQ,tN h]at f ⊢;split
   ·rename_i C;rw[BZ C,zf,xA]at f;exact f.imp (Oper.wp_mono n) id
   ·rename_i C;rw[Cd C]at f;exact n _ _ f
end
def stepE (tab:Tab)(fns:FuncId→Option Func)(C:Sem1)(tk:Nat→Bool)(ops:Array Oper)(j:Nat)(D:US):Option US :=(ops[j]?).bind fun o=>runOps tab fns C tk ops [o] j D
def fQ (tab:Tab)(fns:FuncId→Option Func)(C:Sem1)(tk:Nat→Bool)(ops:Array Oper):Nat→List Nat→US→List (Option US)
 | 0,rem,D=>match rem with|[]=>[some D]|_=>[none]
 |n+1,rem,D =>
  match rem.filter (fun j=>(aC ops j).all fun i => !rem.contains i)with
  |[]=>[none]
  |j::a=>(j::a).flatMap fun j=>match stepE tab fns C tk ops j D with
   |some D'=>fQ tab fns C tk ops n (rem.erase j) D'
   |none=>[none]
def eV {α:Type}:List (Option α)→α→Prop|[],_=>True|x::r,U=>x=some U∧eV r U
theorem kO {α:Type}{U:α}:∀{l:List (Option α)},eV l U→∀x∈l,x=some U
 |[],_,x,hx=>by cases hx
 |y::l,h,x,hx=>by
  rcases Cq.1 hx with rfl|hx
  ·exact h.1
  ·exact kO h.2 x hx
theorem Inv.stepE {P:Program}{tab:Tab}(ok:ax P tab){fns:FuncId→Option Func}(hf:dB P fns){B:Base}{C:Sem1}{cx:Cx}(v:cZ P B C cx){tk:Nat→Bool}{ops:Array Oper}{Q:Exit→Act→World→Prop}{j:Nat}{D:DSt}{a:Act}{w:World}
  (I:Inv cx D [] a.tmps w) {U:US} (e:Am.stepE tab fns C tk ops j (erD D)=some U) {K:Act→World→Prop} (p:∀D' l w',erD D'=U→(∃o y,ops[j]?=some o∧l=a.put o.dst y)→Inv cx D' [] l.tmps w'→K l w'):wpOp P ops Q j K a w:=by
 unfold Am.stepE at e;rw[BT]at e;obtain⟨o,m,e⟩:=e;have d:∀{x:Option US},(x.bind (Am.runOps tab fns C tk ops [] (j+1)))=some U→x=some U:=fun {x} h=>by rw[BT]at h;obtain⟨V,i,q⟩:=h;cases q;exact i
 unfold wpOp;rw[m];simp only;have r:Region.wanted o (yielded ops a.tmps)=true→(Am.stepU tab fns C (erD D) o (tk j))=some U→(if Region.wanted o (yielded ops a.tmps)=true then o.wp P a w K Q∨o.asks P a w∧LetsOut Q else K (a.put o.dst undef) w):=by intro z e;rw[BZ z];exact .inl (I.stepU ok hf v e fun D' l w' d i q=>p D' l w' d (i.elim fun y h=>⟨o,y,m,h⟩) q)
 unfold Am.runOps at e;split at e
 ·rename_i n;exact r (by simp[Region.wanted,n]) (d e)
 ·rename_i g s n;split at e
  case h_2=>cases e
  rename_i b hb;have u:yielded ops a.tmps g=b:=by rw[BT]at hb;obtain⟨t,d,i⟩:=hb;rw[mp]at i;have:=I.yieldAt i;unfold yielded;rw[d];exact this
  split at e
  ·rename_i f;exact r (by simp[Region.wanted,n,u,f]) (d e)
  ·rename_i f;have k:=d e;rw[Cd (by simp[Region.wanted,n,u,f])];split at k
   ·rename_i c;cases k;exact p D _ _ rfl ⟨o,undef,m,rfl⟩ (by rw[c];exact I)
   ·rename_i t c;rw[bU]at k;split at k
    case isFalse=>cases k
    rename_i A;cases k;exact p _ _ _ (nU D t _) ⟨o,undef,m,rfl⟩ (by rw[c];exact I.putUndef A)
theorem qr {P:Program}{tab:Tab}(ok:ax P tab){fns:FuncId→Option Func}(hf:dB P fns){B:Base}{C:Sem1}{cx:Cx}(A:cZ P B C cx){ops:Array Oper}{tk:Nat→Bool}{Q:Exit→Act→World→Prop}{U:US}{T:Act→Prop}
  (F:∀o∈ops.toList,∀a y,T a→T (a.put o.dst y)) (G:∀D' h w',erD D'=U→T h→Inv cx D' [] h.tmps w'→Q .normal h w'):
  ∀(n:Nat)(rem:List Nat)(b:Array Bool)(D:DSt)(a:Act)(w:World),rem.length=n→b.size=ops.size→rem.Nodup→(∀i,i∈rem↔i<ops.size∧¬ao b i)→(∀j i,i∈aC ops j→i<ops.size) →
   Inv cx D [] a.tmps w→T a→(∀x∈fQ tab fns C tk ops n rem (erD D),x=some U)→wpAny P .any ops Q n b a w:=by
 intro n;have c:∀{rem:List Nat}{b:Array Bool},b.size=ops.size→(∀i,i∈rem↔i<ops.size∧¬ao b i)→(∀j i,i∈aC ops j→i<ops.size)→∀j,j∈Region.ready .any ops b↔j∈rem.filter (fun j=>(aC ops j).all fun i => !rem.contains i):=by
  intro rem b hs d e j;rw[cS hs,CY,d,B2];constructor
  ·rintro⟨m,p,r⟩;refine⟨⟨m,p⟩,fun i hi=>?_⟩;have:i∉rem:=fun q=>((d i).1 q).2 (r i hi)
   simpa using this
  ·rintro⟨⟨m,p⟩,r⟩;refine⟨m,p,fun i hi=>?_⟩;have:=r i hi;have H:i∉rem:=by simpa using this
   apply Cn;intro q;exact H ((d i).2 ⟨e j i hi,q⟩)
 induction n with
 |zero =>
  intro rem b D a w z hs k d e I hd f;have J:rem=[]:=C1.1 z;subst J;refine⟨?_,?_⟩
  ·apply CW.2;intro i hi;rw[c hs d e]at hi;cases hi
  ·have:=f (some (erD D)) (by simp[fQ]);cases this;exact G D a w rfl hd I
 |succ n K =>
  intro rem b D a w z hs k d e I hd f;show _∧_;unfold fQ at f;cases hc:rem.filter (fun j=>(aC ops j).all fun i => !rem.contains i)with
  |nil=>rw[hc]at f;have:=f none (by simp);cases this
  |cons L W =>
   refine⟨fun q=>?_,fun j l=>?_⟩
   ·have:L∈Region.ready .any ops b:=by rw[c hs d e,hc];simp
    rw[q]at this;cases this
   ·have s:=l;rw[c hs d e]at l;have t:=(CY.1 l).1;rw[hc]at f l;have g:∀x∈(match Am.stepE tab fns C tk ops j (erD D)with|some D'=>fQ tab fns C tk ops n (rem.erase j) D'|none=>[none]),x=some U:=fun x u=>f x (B5.2 ⟨j,l,u⟩)
    split at g
    ·rename_i D1 v;refine I.stepE ok hf A v fun D' h w' M N O=>?_
     obtain⟨X,Y,Z⟩:=(cS hs).1 s;obtain⟨R,S,k3⟩:=nj hs k d t;refine K (rem.erase j) (b.setIfInBounds j true) D' h w' (by omega) (by simp[hs]) R S e O (by obtain⟨o,y,V,rfl⟩:=N;exact F o (BR (by simpa using V)) a y hd) (by rw[M];exact g)
    ·have:=g none (by simp);cases this
def pF (tk:Nat→Bool)(ops:Array Oper)(m0:Nat)(anc:List (List Nat)):Bool :=
 decide (m0+1≤ops.size) &&
 (List.range ops.size).all (fun j=>(aC ops j).all fun i=>decide (i<j)) &&
 (List.range (m0+1)).all (fun j=>((ops[j]?).bind (·.dst)).isSome)&&decide ((a9 ops (m0+1)).Nodup) &&
 (List.range ops.size).all (fun j=>(anc.getD j []).all fun i=>(aC ops j).contains i ||(aC ops j).any fun k=>(anc.getD k []).contains i) &&
 (List.range ops.size).all (fun j=>decide (j<m0+1)||(List.range m0).all fun i=>(aC ops j).contains i ||(aC ops j).any fun k=>(anc.getD k []).contains i) &&
 (List.range (m0+1)).all (fun k=>match tko tk ops k with
  |some u=>(List.range (m0+1)).any (fun i=>(anc.getD k []).contains i&&decide ((ops[i]?).bind (·.dst)=some u)) && !((gM tk ops (m0+1) k).contains u)
  |none=>true)&&(jv ops anc).isEmpty
structure lw (tk:Nat→Bool)(ops:Array Oper)(m0:Nat)(anc:List (List Nat)):Prop where
 le:m0+1≤ops.size
 topo:∀j i,i∈aC ops j→i<j
 dst:∀j,j<m0+1→∃t,(ops[j]?).bind (·.dst)=some t
 nodup:(a9 ops (m0+1)).Nodup
 seq:∀j,m0+1≤j→j<ops.size→∀i,i<m0→i∈aC ops j∨∃k∈aC ops j,i∈anc.getD k []
 tk1:∀k,k<m0+1→∀u,tko tk ops k=some u→∃i,i<m0+1∧i∈anc.getD k []∧(ops[i]?).bind (·.dst)=some u
 tk2:∀k k' u,k<m0+1→k'<m0+1→tko tk ops k=some u→tko tk ops k'=some u→k=k'
 st:jv ops anc=[]
 anc:∀j,j<ops.size→∀i∈anc.getD j [],i∈aC ops j∨∃k∈aC ops j,i∈anc.getD k []
theorem wN {tk:Nat→Bool}{ops:Array Oper}{m0:Nat}{anc:List (List Nat)}(h:pF tk ops m0 anc=true):lw tk ops m0 anc:=by
 unfold pF at h;rw[Cf,Cf]at h;obtain⟨⟨h,o⟩,p⟩:=h;simp only[Cf,B2,CB,C8,Dy,CJ,C4]at h;obtain⟨⟨⟨⟨⟨q,r⟩,s⟩,t⟩,v⟩,w⟩:=h;have l:∀k,k<m0+1→∀u,tko tk ops k=some u→((List.range (m0+1)).any (fun i=>(anc.getD k []).contains i&&decide ((ops[i]?).bind (·.dst)=some u)) && !((gM tk ops (m0+1) k).contains u))=true:=fun k l u c=>by have:=B2.1 o k (CB.2 l);rw[c]at this;exact this
 refine⟨q,fun j i hi=>?_,fun j d=>Dw.1 (s j d),t,fun j x d i hi=>?_,fun k a u c=>?_,fun k k' u a f c m=>?_,List.isEmpty_iff.1 p,fun j d i hi=>v j d i hi⟩
 ·rcases BY j ops.size with g|g
  ·exact r j g i hi
  ·unfold aC at hi;rw[CM g]at hi;cases hi
 ·rcases w j d with g|g
  ·omega
  ·exact g i hi
 ·have:=l k a u c;rw[Cf,C4]at this;obtain⟨⟨i,hi,b⟩,_⟩:=this;rw[Cf,CJ,C8]at b;exact⟨i,CB.1 hi,b.1,b.2⟩
 ·have:=l k a u c;rw[Cf]at this;have b:=this.2;apply Cn;intro n;have:u∈gM tk ops (m0+1) k:=C5.2 ⟨k',CB.2 f,by rw[Cd (fun e=>n e.symm)];exact m⟩;rw[←CJ]at this;rw[this]at b;cases b
section
variable  {tab : Tab}{fns : FuncId → Option Func}{C : Sem1}{tk : Nat → Bool}{ops : Array Oper}{m m0 : Nat}{anc : List (List Nat)}{V0 : US}{ts : Nat → Nat}{ss : Nat → Sl Unit Unit}{L L' : Nat → Prop}{U U' : US}
theorem xQ (a:lw tk ops m0 anc):∀j,j<ops.size→∀i∈anc.getD j [],i<j:=by
 intro j;induction j using Nat.strongRecOn with
 |ind j b =>
  intro c i hi;rcases a.anc j c i hi with g|⟨k,d,e⟩
  ·exact a.topo j i g
  ·have:=a.topo j k d;have:=b k this (by omega) i e;omega
theorem yP (a:lw tk ops m0 anc):∀j,j<m0+1→∀i∈anc.getD j [],i<j:=fun j b=>xQ a j (by have:=a.le;omega)
theorem k8 (a:lw tk ops m0 anc){L:Nat→Prop}(hc:∀k,L k→∀i∈aC ops k,L i):∀j,j<ops.size→(∀i∈aC ops j,L i)→∀i∈anc.getD j [],L i:=by
 intro j;induction j using Nat.strongRecOn with
 |ind j d =>
  intro e b i hi;rcases a.anc j e i hi with g|⟨k,c,f⟩
  ·exact b i g
  ·have h:=a.topo j k c;exact d k h (by omega) (hc k (b k c)) i f
theorem Shows.ext2 (w:Lex tk ops m anc V0 ts)(h:Shows tk ops m anc V0 ts ss L U)(j:Shows tk ops m anc V0 ts ss L U'):U=U':=by
 refine CP fun u=>?_
 by_cases r:∃k,k<m∧L k∧tko tk ops k=some u
 ·obtain⟨k,b,a,q⟩:=r;rw[h.gone k b a u q,j.gone k b a u q]
 ·have d:∀k,k<m→L k→tko tk ops k≠some u:=fun k b a q=>r ⟨k,b,a,q⟩
  by_cases e:∃i,i<m∧L i∧stO ops anc i=none∧ts i=u
  ·obtain⟨i,hi,a,hs,rfl⟩:=e;rw[h.on i hi a hs d,j.on i hi a hs d]
  ·have s:∀i,i<m→L i→stO ops anc i=none→ts i≠u:=fun i hi a hs q=>e ⟨i,hi,a,hs,q⟩
   by_cases t:∃k,k<m∧∃c,stO ops anc k=some (u,c)
   ·obtain⟨k,b,c,hs⟩:=t;obtain⟨ts0,t0,v,_,_⟩:=w.home b hs;obtain⟨tt,y,D,z,A⟩:=h.home k b u c hs ts0 v;obtain⟨B,l,C,n,o⟩:=j.home k b u c hs ts0 v;rw[y,l];congr 2;apply CP;intro x;by_cases p:∃i,i<m∧L i∧stO ops anc i=some (u,x)
    ·obtain⟨i,hi,a,f⟩:=p;rw[z i hi a x f,n i hi a x f]
    ·rw[A x fun i hi a q=>p ⟨i,hi,a,q⟩,o x fun i hi a q=>p ⟨i,hi,a,q⟩]
   ·have g:∀k,k<m→∀c,stO ops anc k≠some (u,c):=fun k b c q=>t ⟨k,b,c,q⟩
    rw[h.off u s d g,j.off u s d g]
theorem ll:∀(n j:Nat){ss:Nat→Sl Unit Unit}{V U:US},Lex tk ops m anc V0 ts→j+n≤m→Shows tk ops m anc V0 ts ss (fun i=>i<j) V →
  gZ tab fns C tk ops m anc n j V=some U→∃ss',(∀i,i<j→ss' i=ss i)∧Shows tk ops m anc V0 ts ss' (fun i=>i<j+n) U∧∀i,j≤i→i<j+n→∃h,Shows tk ops m anc V0 ts ss' (fun k=>k<i) h∧evM tab fns C tk ops m anc i h=some (ss' i)
 | 0,j,ss,V,U,d,p,b,e=>by cases e;exact⟨ss,fun i _=>rfl,b,fun i c l=>by omega⟩
 |n+1,j,ss,V,U,d,p,b,e=>by
  have f:j<m:=by omega
  simp only[gZ,BT]at e;obtain⟨y,r,t⟩:=e;obtain⟨s,u,v⟩:=b.one d f r;let a:Nat→Sl Unit Unit:=fun i=>if i=j then s else ss i
  have o:a j=s:=by simp[a]
  have g:∀i,i<j→a i=ss i:=fun i hi=>by
   have:i≠j:=by omega
   simp[a,this]
  obtain⟨ss',c,l,w⟩:=ll n (j+1) d (by omega) (v a o g) t;refine⟨ss',fun i hi=>(c i (by omega)).trans (g i hi),l.imp (fun i _=>by constructor<;>intro q<;>omega),fun i hi z=>?_⟩;by_cases e:i=j
  ·subst e;refine⟨V,b.congr fun k _ x=>(c k (by omega)).trans (g k x),?_⟩;rw[c i (by omega),o];exact u
  ·exact w i (by omega) (by omega)
end
theorem wC {P:Program}{tab:Tab}(ok:ax P tab){fns:FuncId→Option Func}(hf:dB P fns){B:Base}{C:Sem1}{cx:Cx}(hC:cZ P B C cx){ops:Array Oper}{m0:Nat}{anc:List (List Nat)}{Q:Exit→Act→World→Prop}
  {tk:Nat→Bool} (c:lw tk ops m0 anc) {V0:US} {ts:Nat→Nat} {ss:Nat→Sl Unit Unit} (G:Lex tk ops (m0+1) anc V0 ts) (hv:∀i,i<(m0+1)→∃H,Shows tk ops (m0+1) anc V0 ts ss (fun k=>k<i) H∧evM tab fns C tk ops (m0+1) anc i H=some (ss i))
  (h0:∀u∈dz tk ops (m0+1),∀s∈V0,bH u s=false) {T:Act→Prop} (hT:∀o∈ops.toList,∀a y,T a→T (a.put o.dst y)) (tail:∀(rem:List Nat)(b:Array Bool)(D:DSt)(a:Act)(w:World),b.size=ops.size→rem.Nodup→(∀i,i∈rem↔i<ops.size∧¬ao b i) →
   (∀i,(m0+1)≤i→i<ops.size→¬ao b i)→(∀i,i<m0→ao b i)→Inv cx D [] a.tmps w→T a→Shows tk ops (m0+1) anc V0 ts ss (ao b) (erD D)→wpAny P .any ops Q rem.length b a w):
  ∀(n:Nat)(rem:List Nat)(b:Array Bool)(D:DSt)(a:Act)(w:World),rem.length=n→b.size=ops.size→rem.Nodup→(∀i,i∈rem↔i<ops.size∧¬ao b i) →
   (∀i,(m0+1)≤i→i<ops.size→¬ao b i)→(∀k,ao b k→∀i∈aC ops k,ao b i)→Inv cx D [] a.tmps w→T a→Shows tk ops (m0+1) anc V0 ts ss (ao b) (erD D)→wpAny P .any ops Q n b a w:=by
 intro n;induction n with
 |zero =>
  intro rem b D a w J hs d m e hc I hd r;have Z:rem=[]:=C1.1 J;have:=tail rem b D a w hs d m e (fun i hi=>by
   by_cases q:ao b i
   ·exact q
   ·have:=(m i).2 ⟨by have:=c.le;omega,q⟩;rw[Z]at this;cases this) I hd r
  rw[Z]at this;exact this
 |succ n ih =>
  intro rem b D a w J hs d m e hc I hd r;by_cases f:∀i,i<m0→ao b i
  ·have:=tail rem b D a w hs d m e f I hd r;rw[J]at this;exact this
  ·have h:∃j,j<m0∧¬ao b j∧∀i,i<j→ao b i:=by
    have K:∃j,j<m0∧¬ao b j:=by apply Cn;intro q;exact f fun i hi=>Cn fun L=>q ⟨i,hi,L⟩
    obtain⟨j,M,v⟩:=K;induction j using Nat.strongRecOn with
    |ind j N =>
     by_cases q:∀i,i<j→ao b i
     ·exact⟨j,M,v,q⟩
     ·have:∃i,i<j∧¬ao b i:=Cn fun L=>q fun i hi=>Cn fun O=>L ⟨i,hi,O⟩
      obtain⟨i,hi,R⟩:=this;exact N i hi (by omega) R
   obtain⟨x,M,v,h3⟩:=h;show _∧_;refine⟨fun q=>?_,fun j hj=>?_⟩
   ·have:x∈Region.ready .any ops b:=(cS hs).2 ⟨by have:=c.le;omega,v,fun i hi=>h3 i (c.topo x i hi)⟩;rw[q]at this;cases this
   ·obtain⟨S,U,A⟩:=(cS hs).1 hj;have l:j<m0+1:=by
     rcases BY j (m0+1)with g|g
     ·exact g
     ·rcases c.seq j g S x M with q|⟨t,F,q2⟩
      ·exact absurd (A x q) v
      ·exact absurd (k8 c (fun k hk i hi=>hc k hk i hi) t (by have:=c.topo j t F;omega) (fun i hi=>hc t (A t F) i hi) x q2) v
    have z:∀k∈anc.getD j [],ao b k:=k8 c (fun k hk i hi=>hc k hk i hi) j S A;have V:=ua G (by rw[c.st];intro p hp;cases hp) hv r l U z;have W:=r.nr G h0 (fun i hi X=>by obtain⟨H,_,q⟩:=hv i hi;exact s8 X q);refine I.stepM ok hf hC l W V fun D' a' w' e1 e2 e3=>?_
    have Y:j∈rem:=(m j).2 ⟨S,U⟩;obtain⟨t,k2,k3⟩:=nj hs d m Y;refine ih (rem.erase j) (b.setIfInBounds j true) D' a' w' (by omega) (by simp[hs]) t k2 (fun i h4 h5 q=>?_) (fun k hk i hi=>?_) e3 (by obtain⟨o,y,F,rfl⟩:=e2;exact hT o (BR (by simpa using F)) a y hd) ?_
    ·rw[ch]at q;rcases q with⟨q,_⟩|q
     ·omega
     ·exact e i h4 h5 q
    ·rw[ch]at hk ⊢;rcases hk with⟨rfl,_⟩|hk
     ·exact .inr (A i hi)
     ·exact .inr (hc k hk i hi)
    ·rw[e1];refine(r.out G l U (fun k hk hL i hi _=>k8 c (fun k hk i hi=>hc k hk i hi) k (by have:=c.le;omega) (fun i hi=>hc k hL i hi) i hi)).imp fun i _=>?_
     rw[ch];constructor
     ·rintro(q|q)
      ·exact .inl ⟨q,by omega⟩
      ·exact .inr q
     ·rintro(⟨q,_⟩|q)
      ·exact .inl q
      ·exact .inr q
theorem pG (n k:Nat)(_:k≤n):(∀i,i∈(List.range n).drop k↔k≤i∧i<n)∧((List.range n).drop k).Nodup∧((List.range n).drop k).length=n-k:=by
 refine⟨fun i=>?_,List.nodup_range.sublist (DG _ _),by simp⟩;rw[List.mem_iff_getElem?];constructor
 ·rintro⟨j,a⟩;rw[CG]at a;have b:k+j<n:=by
   rcases BY (k+j) n with g|g
   ·exact g
   ·rw[BV (by simpa using g)]at a;cases a
  rw[C0 b]at a;cases a;omega
 ·rintro⟨c,d⟩;exact⟨i-k,by rw[CG,C0 (by omega)];congr 1;omega⟩
open Classical in
noncomputable def runD2 (tab:Tab)(fns:FuncId→Option Func)(C:Sem1)(tk:Nat→Bool)(ops:Array Oper)(σ:List Nat)(m0:Nat)(anc:List (List Nat))(D:US):Option US :=
 if sq σ ops.size=true∧(pF tk (bm σ ops) m0 anc&&(a9 (bm σ ops) (m0+1)).all (fun t=>decide (t<D.length))&&(killAll (a9 (bm σ ops) (m0+1)) D).all (fun s=>(dz tk (bm σ ops) (m0+1)).all fun u => !bH u s))=true then
  (gZ tab fns C tk (bm σ ops) (m0+1) anc m0 0 (killAll (a9 (bm σ ops) (m0+1)) D)).bind fun a =>
   (gZ tab fns C tk (bm σ ops) (m0+1) anc 1 m0 a).bind fun b =>
    match fQ tab fns C tk (bm σ ops) (ops.size-(m0+1)) ((List.range ops.size).drop (m0+1)) b with
    |some U::r=>if eV r U∧eV (fQ tab fns C tk (bm σ ops) (ops.size-m0) ((List.range ops.size).drop m0) a) U then some U else none
    |_=>none
 else none
theorem Inv.runD2 {P:Program}{tab:Tab}(ok:ax P tab)(hm:P.follows .mixedOrders=true){fns:FuncId→Option Func}(hf:dB P fns){B:Base}{C:Sem1}{cx:Cx}(hC:cZ P B C cx){tk:Nat→Bool}{ops:Array Oper}{σ:List Nat}{m0:Nat}{anc:List (List Nat)}
  {Q:Exit→Act→World→Prop}  {U:US} {T:Act→Prop} (hT:∀o∈ops.toList,∀a y,T a→T (a.put o.dst y)) (hQ:∀D' J w',erD D'=U→T J→Inv cx D' [] J.tmps w'→Q .normal J w') {id:Nat} {D:DSt} {a:Act} {w:World} (I:Inv cx D [] a.tmps w) (hd:T a)
  (e:Am.runD2 tab fns C tk ops σ m0 anc (erD D)=some U):(Code.region id ops true).wp P Q a w:=by
 unfold Am.runD2 at e;split at e
 case isFalse=>cases e
 rename_i hc;obtain⟨hp,Z⟩:=hc;have hP:=yB hp;have hz:=qg hP;have F:∀o∈(bm σ ops).toList,∀a y,T a→T (a.put o.dst y):=by intro o ho;unfold bm at ho;rw[B7]at ho;obtain⟨o',h1,rfl⟩:=ho;rw[C5]at h1;obtain⟨j,_,h2⟩:=h1;exact hT o' (BR (by simpa using h2))
 rw[Cf,Cf]at Z;obtain⟨⟨Z,M⟩,G⟩:=Z;refine wp_region_any hm (wB hP ops.size _ (Array.replicate ops.size false) a _ (by simp) (by simp) (fun j=>⟨fun q=>absurd q cj,fun q=>absurd q cj⟩) ?_);rw[←hz]at e ⊢;generalize bm σ ops=b at *;clear hP hp hT;have v:=wN Z;rw[BT]at e;obtain⟨Vx,e1,e⟩:=e;rw[BT]at e;obtain⟨Vm,e2,N⟩:=e;rw[←iT]at e1 G;have I0:=(I.drewn).killAll (a9 b (m0+1));generalize F0:Am.killAll (a9 b (m0+1)) D=H at e1 I0 G;have z:∀j p,stO b anc j≠some p:=fun j p q=>by unfold stO at q;rw[v.st]at q;cases q
 obtain⟨ts,hx⟩:∃ts,Lex tk b (m0+1) anc (erD H) ts:=xu (fun j hj _=>v.dst j hj) v.nodup v.tk1 v.tk2 (yP v) (fun j h c q=>absurd q (z j _)) (fun i j p q _=>absurd q (z i p)) (fun j h c q=>absurd q (z j _)) (fun t ht=>by rw[←F0,iT];refine lj _ ?_ (.inl ht);simpa using B2.1 M _ ht) (fun j h c q=>absurd q (z j _));have h0:Shows tk b (m0+1) anc (erD H) ts (fun _=>.any) (fun i=>i<0) (erD H):=Shows.zero (fun i q=>by omega);obtain⟨s1,_,k2,k3⟩:=ll m0 0 hx (by omega) h0 e1;obtain⟨ss,g1,g2,g3⟩:=ll 1 m0 hx (by omega) (k2.imp fun i _=>by rw[Db]) e2;have kx:Shows tk b (m0+1) anc (erD H) ts ss (fun i=>i<m0) Vx:=(k2.imp fun i _=>by rw[Db]).congr fun i _ hL=>g1 i hL
 have hv:∀i,i<m0+1→∃Vi,Shows tk b (m0+1) anc (erD H) ts ss (fun k=>k<i) Vi∧evM tab fns C tk b (m0+1) anc i Vi=some (ss i):=fun i hi=>by
  by_cases h:i<m0
  ·obtain⟨Vi,K,A⟩:=k3 i (DI i) (by omega);exact⟨Vi,K.congr fun k _ hL=>g1 k (by omega),by rw[A,g1 i h]⟩
  ·exact g3 i (by omega) hi
 have O:∀u∈dz tk b (m0+1),∀s∈erD H,bH u s=false:=fun u hu s hs=>by have:=B2.1 (B2.1 G s hs) u hu;simpa using this
 have f:(∀x∈fQ tab fns C tk b (b.size-(m0+1)) ((List.range b.size).drop (m0+1)) Vm,x=some U)∧∀x∈fQ tab fns C tk b (b.size-m0) ((List.range b.size).drop m0) Vx,x=some U:=by
  split at N
  case h_2=>cases N
  rename_i U' r hr;split at N
  case isFalse=>cases N
  rename_i L;cases N;refine⟨fun x hx=>?_,kO L.2⟩;rw[hr]at hx;rcases Cq.1 hx with rfl|hx
  ·rfl
  ·exact kO L.1 x hx
 have R:∀j i,i∈aC b j→i<b.size:=fun j i hi=>by
  have:=v.topo j i hi;rcases BY j b.size with g|g
  ·omega
  ·unfold aC at hi;rw[CM g]at hi;cases hi
 have F1:=v.le;refine wC ok hf hC v hx hv O (T:=T) F (fun rem d D' J w' hs S hr V l I' W hS=>?_) b.size (List.range b.size) _ H a _ (by simp) (by simp) DM (fun i=>?_) (fun i h1 h2 q=>?_) (fun k hk=>?_) I0 hd ?_
 ·by_cases L:ao d m0
  ·have m:∀i,i<m0+1→ao d i:=fun i hi=>by
    rcases BY i m0 with g|g
    ·exact l i g
    ·have:i=m0:=by omega
     rw[this];exact L
   have hE:erD D'=Vm:=hS.ext2 hx (g2.imp fun i hi=>⟨fun _=>m i hi,fun _=>hi⟩);obtain⟨d1,X,Y⟩:=pG b.size (m0+1) F1;have n:∀i,i∈(List.range b.size).drop (m0+1)↔i<b.size∧¬ao d i:=fun i=>by
    rw[d1];constructor
    ·exact fun q=>⟨q.2,V i q.1 q.2⟩
    ·rintro⟨K,A⟩;rcases BY i (m0+1)with g|g
     ·exact absurd (m i g) A
     ·exact⟨g,K⟩
   have hl:rem.length=b.size-(m0+1):=by rw[←Y];exact((Do S X).2 fun i=>by rw[hr,n]).length_eq
   rw[hl];exact qr ok hf hC F hQ _ _ d D' J w' Y hs X n R I' W (by rw[hE];exact f.1)
  ·have hE:erD D'=Vx:=hS.ext2 hx (kx.imp fun i hi=>⟨fun q=>l i q,fun q=>by
    rcases BY i m0 with g|g
    ·exact g
    ·have:i=m0:=by omega
     rw[this]at q;exact absurd q L⟩)
   obtain⟨d1,X,Y⟩:=pG b.size m0 (by omega);have n:∀i,i∈(List.range b.size).drop m0↔i<b.size∧¬ao d i:=fun i=>by
    rw[d1];constructor
    ·rintro⟨K,A⟩;refine⟨A,?_⟩;by_cases g:i=m0
     ·rw[g];exact L
     ·exact V i (by omega) A
    ·rintro⟨K,A⟩;rcases BY i m0 with g|g
     ·exact absurd (l i g) A
     ·exact⟨g,K⟩
   have hl:rem.length=b.size-m0:=by rw[←Y];exact((Do S X).2 fun i=>by rw[hr,n]).length_eq
   rw[hl];exact qr ok hf hC F hQ _ _ d D' J w' Y hs X n R I' W (by rw[hE];exact f.2)
 ·rw[CB];constructor
  ·intro q;exact⟨q,cj⟩
  ·exact fun q=>q.1
 ·exact cj q
 ·exact absurd hk cj
 ·exact Shows.zero (fun i q=>absurd q cj)
def wA (ops:Array Oper)(m:Nat):Bool :=decide (m≤ops.size)&&(List.range ops.size).all (fun j=>(aC ops j).all fun i=>decide (i<j)) && (List.range ops.size).all (fun j=>decide (j<m)||(List.range j).all fun i=>(aC ops j).contains i)
theorem vW {l:Array Bool}{rem:List Nat}{m j:Nat}(h:m≤l.size)(a:rem.Nodup)(e:∀i,i∈rem↔i<m∧¬ao l i)(c:j∈rem):
  (rem.erase j).Nodup∧(∀i,i∈rem.erase j↔i<m∧¬ao (l.setIfInBounds j true) i)∧(rem.erase j).length+1=rem.length:=by
 have f:=(e j).1 c;refine⟨a.erase j,fun i=>?_,?_⟩
 ·rw[a.mem_erase_iff,e,ch];constructor
  ·rintro⟨d,b,g⟩;exact⟨b,fun q=>q.elim (fun q=>d q.1) g⟩
  ·rintro⟨d,b⟩;exact⟨fun q=>b (.inl ⟨q,by omega⟩),d,fun q=>b (.inr q)⟩
 ·have:=Ec c;have:=List.length_pos_of_mem c;omega
theorem u9 {P:Program}{tab:Tab}(ok:ax P tab){fns:FuncId→Option Func}(hf:dB P fns){B:Base}{C:Sem1}{cx:Cx}(M:cZ P B C cx){ops:Array Oper}{tk:Nat→Bool}{Q:Exit→Act→World→Prop}{U:US}{T:Act→Prop}{m k:Nat}(hk:m+k=ops.size)
  (N:∀o∈ops.toList,∀a y,T a→T (a.put o.dst y)) (e:∀j i,i∈aC ops j→i<j) (s:∀j,m≤j→j<ops.size→∀i,i<j→i∈aC ops j)
  (O:∀(b:Array Bool) D' t w',b.size=ops.size→(∀i,i<ops.size→(ao b i↔i<m))→erD D'=U→T t→Inv cx D' [] t.tmps w'→wpAny P .any ops Q k b t w'):
  ∀(n:Nat)(rem:List Nat)(b:Array Bool)(D:DSt)(a:Act)(w:World),rem.length=n→b.size=ops.size→rem.Nodup→(∀i,i∈rem↔i<m∧¬ao b i)→(∀i,m≤i→¬ao b i) →
   Inv cx D [] a.tmps w→T a→(∀x∈fQ tab fns C tk ops n rem (erD D),x=some U)→wpAny P .any ops Q (n+k) b a w:=by
 intro n;induction n with
 |zero =>
  intro rem b D a w F hs u d f I hd l;have R:rem=[]:=C1.1 F;subst R;rw[Db];have:=l (some (erD D)) (by simp[fQ]);cases this;refine O b D a w hs (fun i hi=>⟨fun q=>?_,fun q=>?_⟩) rfl hd I
  ·rcases BY i m with g|g
   ·exact g
   ·exact absurd q (f i g)
  ·apply Cn;intro h;have:=(d i).2 ⟨q,h⟩;cases this
 |succ n S =>
  intro rem b D a w F hs u d f I hd l;have c:∀j,j∈Region.ready .any ops b↔j∈rem.filter (fun j=>(aC ops j).all fun i => !rem.contains i):=by
   intro j;rw[cS hs,CY,d,B2];constructor
   ·rintro⟨L,G,A⟩;have H:j<m:=by
     rcases BY j m with g|g
     ·exact g
     ·exfalso;cases rem with
      |nil=>cases F
      |cons i r =>have hi:=(d i).1 (by simp);exact hi.2 (A i (s j g L i (by omega)))
    refine⟨⟨H,G⟩,fun i hi=>?_⟩;have:i∉rem:=fun q=>((d i).1 q).2 (A i hi)
    simpa using this
   ·rintro⟨⟨L,G⟩,A⟩;refine⟨by omega,G,fun i hi=>?_⟩;have:=A i hi;have V:i∉rem:=by simpa using this
    apply Cn;intro q;exact V ((d i).2 ⟨by have:=e j i hi;omega,q⟩)
  rw[show n+1+k=(n+k)+1 by omega];show _∧_;unfold fQ at l;cases hc:rem.filter (fun j=>(aC ops j).all fun i => !rem.contains i)with
  |nil=>rw[hc]at l;have:=l none (by simp);cases this
  |cons W js =>
   refine⟨fun q=>?_,fun j v=>?_⟩
   ·have:W∈Region.ready .any ops b:=by rw[c,hc];simp
    rw[q]at this;cases this
   ·have X:=v;rw[c]at v;have z:=(CY.1 v).1;rw[hc]at l v;have p:∀x∈(match Am.stepE tab fns C tk ops j (erD D)with|some D'=>fQ tab fns C tk ops n (rem.erase j) D'|none=>[none]),x=some U:=fun x J=>l x (B5.2 ⟨j,v,J⟩)
    split at p
    ·rename_i D1 K;refine I.stepE ok hf M K fun D' t w' Y Z e3=>?_
     obtain⟨k1,k2,k3⟩:=vW (by omega) u d z;refine S (rem.erase j) (b.setIfInBounds j true) D' t w' (by omega) (by simp[hs]) k1 k2 (fun i hi q=>?_) e3 (by obtain⟨o,y,q1,rfl⟩:=Z;exact N o (BR (by simpa using q1)) a y hd) (by rw[Y];exact p);rw[ch]at q;rcases q with⟨q,_⟩|q
     ·have:=(d j).1 z;omega
     ·exact f i hi q
    ·have:=p none (by simp);cases this
open Classical in
noncomputable def runD3 (tab:Tab)(fns:FuncId→Option Func)(C:Sem1)(tk:Nat→Bool)(ops:Array Oper)(m:Nat)(D:US):Option US :=
 if wA ops m=true then
  match fQ tab fns C tk ops m (List.range m) D with
  |some U::r=>if eV r U then runOps tab fns C tk ops (ops.toList.drop m) m U else none
  |_=>none
 else none
theorem Inv.runD3 {P:Program}{tab:Tab}(ok:ax P tab)(v:P.follows .mixedOrders=true){fns:FuncId→Option Func}(hf:dB P fns){B:Base}{C:Sem1}{cx:Cx}(s:cZ P B C cx){tk:Nat→Bool}{ops:Array Oper}{m:Nat}
  {Q:Exit→Act→World→Prop} {U:US} {T:Act→Prop} (t:∀o∈ops.toList,∀a y,T a→T (a.put o.dst y)) (z:∀D' f w',erD D'=U→T f→Inv cx D' [] f.tmps w'→Q .normal f w') {id:Nat} {D:DSt} {a:Act} {w:World} (I:Inv cx D [] a.tmps w) (hd:T a)
  (e:Am.runD3 tab fns C tk ops m (erD D)=some U):(Code.region id ops true).wp P Q a w:=by
 unfold Am.runD3 at e;split at e
 case isFalse=>cases e
 rename_i h;split at e
 case h_2=>cases e
 rename_i V r A;split at e
 case isFalse=>cases e
 rename_i F;unfold wA at h;simp only[Cf,C8,B2,CB,Dy,CJ]at h;obtain⟨⟨G,l⟩,n⟩:=h;have b:∀j i,i∈aC ops j→i<j:=fun j i hi=>by
  rcases BY j ops.size with g|g
  ·exact l j g i hi
  ·unfold aC at hi;rw[CM g]at hi;cases hi
 have d:∀j,m≤j→j<ops.size→∀i,i<j→i∈aC ops j:=fun j u p i hi=>by
  rcases n j p with q|q
  ·omega
  ·exact q i hi
 refine wp_region_any v ?_;have hz:m+(ops.size-m)=ops.size:=by omega
 have:=u9 (Q:=Q) (T:=T) ok hf s hz t b d (tk:=tk) (U:=V) (fun c D' f w' hs H u p J=>by
  have K:(ops.toList.drop m).length=ops.size-m:=by simp
  rw[←K];refine oR b (ops.toList.drop m) m c f w' hs (fun i=>by rw[CG];simp) H (fun k l n i hi=>.inl (d k l n i hi)) ?_;exact Inv.runOps (tk:=tk) ok hf s z _ m (fun o L=>t o (CT L)) J p (by rw[u];exact e)) m (List.range m) (Array.replicate ops.size false) D a _ (by simp) (by simp) DM
  (fun i=>by rw[CB];exact⟨fun q=>⟨q,cj⟩,fun q=>q.1⟩) (fun i _=>cj) I.drewn hd (fun x hx=>by
   rw[A]at hx;rcases Cq.1 hx with rfl|hx
   ·rfl
   ·exact kO F x hx)
 rwa [hz]at this
section
variable  {δ β : Type}
def forgetOne (l:List Nat)(D:St δ β)(t:Nat):St δ β :=
 if l.contains t then D else match D[t]? with|some .any=>D|some _=>av D (some t) .any|none=>D
def forget (l:List Nat)(D:St δ β):St δ β:=(List.range D.length).foldl (forgetOne l) D
end
theorem sV (l:List Nat)(D:DSt)(t:Nat):erD (forgetOne l D t)=forgetOne l (erD D) t:=by
 unfold forgetOne;rw[aF];split
 ·rfl
 ·cases D[t]? with
  |none=>rfl
  |some s=>cases s<;>first|rfl|exact aX D (some t) .any
theorem sU (l:List Nat):∀(ts:List Nat)(D:DSt),erD (ts.foldl (forgetOne l) D)=ts.foldl (forgetOne l) (erD D)
 |[],D=>rfl
 |t::ts,D=>by simp only[Cw];rw[sU l ts,sV]
theorem jH (l:List Nat)(D:DSt):erD (forget l D)=forget l (erD D):=by unfold forget;rw[sU,bU]
theorem Inv.forgetOne {cx:Cx}{D:DSt}{tm:Array Value}{w:World}(I:Inv cx D [] tm w)(l:List Nat)(t:Nat):Inv cx (forgetOne l D t) [] tm w:=by
 unfold Am.forgetOne;split
 ·exact I
 ·split
  ·exact I
  ·rename_i s h;refine I.lose ?_;rcases BY t D.length with g|g
   ·exact g
   ·rw[BV g]at h;cases h
  ·exact I
theorem Inv.forgetL {cx:Cx}{tm:Array Value}{w:World}(l:List Nat):∀(ts:List Nat){D:DSt},Inv cx D [] tm w→Inv cx (ts.foldl (Am.forgetOne l) D) [] tm w
 |[],D,I=>I
 |t::ts,D,I=>by simp only[Cw];exact Inv.forgetL l ts (I.forgetOne l t)
theorem Inv.forget {cx:Cx}{D:DSt}{tm:Array Value}{w:World}(I:Inv cx D [] tm w)(l:List Nat):Inv cx (forget l D) [] tm w:=Inv.forgetL l _ I
structure ee where
 take:Nat→Nat→Bool:=fun _ _=>false
 keep:Nat→Option (List Nat):=fun _=>none
 head:Nat→Option (List Nat):=fun _=>none
 tail:Nat→Exit→Option (List Nat):=fun _ _=>none
 draw:Nat→Option (Nat×List (List Nat)):=fun _=>none
 late:Nat→Option (List Nat):=fun _=>none
def yr {α:Type}(l:List (List Nat×α)):List (Nat×α):=l.flatMap fun p=>p.1.map fun k=>(k,p.2)
def hdL (l:List (Nat×List Nat))(i:Nat):Option (List Nat):=l.lookup i
def exN:Exit→Option Nat| .exit k=>some (k+1)| .ret=>some 0|_=>none
def tlL (l:List (Nat×List (Nat×List Nat)))(i:Nat)(e:Exit):Option (List Nat):=(exN e).bind fun k=>(l.lookup i).bind fun r=>r.lookup k
def drL (l:List (Nat×Nat×List (List Nat)))(i:Nat):Option (Nat×List (List Nat)):=l.lookup i
def tkL (l:List (Nat×Nat))(r i:Nat):Bool:=l.any fun p=>p.1==r&&p.2==i
noncomputable def runDL (tab:Tab)(fns:FuncId→Option Func)(C:Sem1)(tk:Nat→Bool)(late:Option (List Nat))(ops:Array Oper)(m:Nat)(anc:List (List Nat))(D:US):Option US :=
 match late with
 |some []=>runD3 tab fns C tk ops m D
 |some σ=>runD2 tab fns C tk ops σ m anc D
 |none=>runD tab fns C tk ops m anc D
theorem Inv.runDL {P:Program}{tab:Tab}(ok:ax P tab)(b:P.follows .mixedOrders=true){fns:FuncId→Option Func}(hf:dB P fns){B:Base}{C:Sem1}{cx:Cx}(c:cZ P B C cx){tk:Nat→Bool}{late:Option (List Nat)}{ops:Array Oper}{m:Nat}{anc:List (List Nat)}
  {Q:Exit→Act→World→Prop} {U:US} {T:Act→Prop} (d:∀o∈ops.toList,∀a y,T a→T (a.put o.dst y)) (f:∀D' g w',erD D'=U→T g→Inv cx D' [] g.tmps w'→Q .normal g w') {id:Nat} {D:DSt} {a:Act} {w:World} (I:Inv cx D [] a.tmps w) (hd:T a)
  (e:Am.runDL tab fns C tk late ops m anc (erD D)=some U):(Code.region id ops true).wp P Q a w:=by
 unfold Am.runDL at e;split at e
 ·exact I.runD3 ok b hf c d f hd e
 ·exact I.runD2 ok b hf c d f hd e
 ·exact I.runD ok b hf c d f hd e
def zQ {R:Type}(g:US→Option R)(K:Exit→US→Option R)(e:Exit)(D:US):Option R :=
 match e with| .normal=>g D|e=>K e D
def ka {R:Type}(body:US→(Exit→US→Option R)→Option R):Nat→US→(Exit→US→Option R)→Option R| 0,_,_=>none|m+1,D,K=>body D (zQ (fun D'=>ka body m D' K) K)
def nl:Code→Option Nat
 | .region id _ _=>some id
 | .seq x y=>match nl x with|some i=>some i|none=>nl y
 | .block _ c=>nl c
 |_=>none
def atHead {δ β:Type}(h:ee)(c:Code)(D:St δ β):St δ β :=
 match(nl c).bind h.head with|some l=>forget l D|none=>D
theorem re (h:ee)(c:Code)(D:DSt):erD (atHead h c D)=atHead h c (erD D):=by
 unfold atHead;split
 ·exact jH _ D
 ·rfl
theorem Inv.atHead {cx:Cx}{D:DSt}{tm:Array Value}{w:World}(I:Inv cx D [] tm w)(h:ee)(c:Code):Inv cx (atHead h c D) [] tm w:=by
 unfold Am.atHead;split
 ·exact I.forget _
 ·exact I
def atTail {δ β:Type}(h:ee)(c:Code)(e:Exit)(D:St δ β):St δ β :=
 match(nl c).bind (h.tail · e)with|some l=>forget l D|none=>D
theorem wP (h:ee)(c:Code)(e:Exit)(D:DSt):erD (atTail h c e D)=atTail h c e (erD D):=by
 unfold atTail;split
 ·exact jH _ D
 ·rfl
theorem Inv.atTail {cx:Cx}{D:DSt}{tm:Array Value}{w:World}(I:Inv cx D [] tm w)(h:ee)(c:Code)(e:Exit):Inv cx (atTail h c e D) [] tm w:=by
 unfold Am.atTail;split
 ·exact I.forget _
 ·exact I
def canon {δ β:Type}(h:ee)(c:Code)(e:Exit)(D:St δ β):St δ β :=
 match e with| .normal=>atHead h c D|e=>atTail h c e D
theorem x5 (h:ee)(c:Code)(e:Exit)(D:DSt):erD (canon h c e D)=canon h c e (erD D):=by
 unfold canon;split
 ·exact re h c D
 ·exact wP h c _ D
theorem Inv.canon {cx:Cx}{D:DSt}{tm:Array Value}{w:World}(I:Inv cx D [] tm w)(h:ee)(c:Code)(e:Exit):Inv cx (canon h c e D) [] tm w:=by
 unfold Am.canon;split
 ·exact I.atHead h c
 ·exact I.atTail h c _
def lW (ops:List Oper):Option (List Oper×TypeId×Operand×Nat×Bool):=
 match ops.getLast? with
 |some ⟨some d,.binOp op t x (.const (.slice none 0 0)) _,_,_,_,none⟩=>(match op with| .eql=>some (ops.dropLast,t,x,d,false)| .neq=>some (ops.dropLast,t,x,d,true)|_=>none)
 |_=>none
def kF {δ β:Type}(M:Mk δ β)(tab:Tab)(D:St δ β)(t:TypeId)(x:Operand):Option Nat :=
 match tab.ti t with
 |some ⟨_,_,_,.slice _⟩=>
  match opd M.nil D x with
  |some (.one (.s _ _ _ rows))=>some rows.length
  |_=>none
 |_=>none
open Classical in
noncomputable def lM {R:Type}(D:US)(d:Nat)(a:Bool)(n:Nat)(K:US→Option R):Option R :=
 if n=0 then
  match K (putA D d (.one (.v (.bool (!a)))))with
  |some r=>if K (putA D d (.one (.v (.bool a))))=some r then some r else none
  |none=>none
 else K (putA D d (.one (.v (.bool a))))
noncomputable def cv (tab:Tab)(fns:FuncId→Option Func)(C:Sem1)(h:ee)(n:Nat){R:Type}:Code→US→(Exit→US→Option R)→Option R
 | .skip,D,K=>K .normal D
 | .region id ops draw,D,K =>
  match draw with
  |true=>(match h.draw id with
   |some (m,anc)=>runDL tab fns C (h.take id) (h.late id) ops m anc (match h.keep id with|some l=>forget l D|none=>D)
   |none=>none).bind fun D'=>K .normal D'
  |false =>
   match lW ops.toList with
   |some (init,t,x,d,b)=>(runOps tab fns C (h.take id) ops init 0 (match h.keep id with|some l=>forget l D|none=>D)).bind fun D' =>
    match kF mkU tab D' t x with
    |some n=>if d<D'.length then lM D' d b n (K .normal)else none
    |none=>none
   |none=>(runOps tab fns C (h.take id) ops ops.toList 0 (match h.keep id with|some l=>forget l D|none=>D)).bind fun D'=>K .normal D'
 | .seq x y,D,K=>cv tab fns C h n x D fun e D'=>match e with| .normal=>cv tab fns C h n y D' K|e=>K e D'
 | .cond c x y,D,K=>match boolOf mkU D c with|some true=>cv tab fns C h n x D K|some false=>cv tab fns C h n y D K|none=>none
 | .block id c,D,K=>cv tab fns C h n c D fun e D'=>match e with| .exit a=>if a=id then K .normal D' else K (.exit a) D'|e=>K e D'
 | .exit id,D,K=>K (.exit id) D
 | .ret,D,K=>K .ret D
 | .loop c,D,K=>ka (fun D K=>cv tab fns C h n c D fun e D'=>K e (canon h c e D')) n (atHead h c D) K
 |_,_,_=>none
theorem wX (tab:Tab)(D:DSt)(t:TypeId)(x:Operand):kF mkU tab (erD D) t x=kF mkD tab D t x:=by
 unfold kF;rw[a5];split
 ·cases opd mkD.nil D x with
  |none=>rfl
  |some s =>
   cases s with
   |one u=>cases u<;>simp[Sl.er,T.er,ra]
   |_=>rfl
 ·rfl
theorem tJ {ops init:List Oper}{t:TypeId}{x:Operand}{d:Nat}{c:Bool}(h:lW ops=some (init,t,x,d,c)):
  ∃o:Oper,ops=init++[o]∧o.dst=some d∧o.guard=none∧∃ty,o.op = .binOp (if c then .neq else .eql) t x (.const (.slice none 0 0)) ty:=by
 unfold lW at h;split at h
 case h_2=>cases h
 rename_i op t' g ty e p q f;have b:=List.getLast?_eq_some_iff.1 f;obtain⟨ys,a⟩:=b;split at h
 ·cases h;exact⟨⟨some d,.binOp .eql t x (.const (.slice none 0 0)) ty,e,p,q,none⟩,by rw[a];simp,rfl,rfl,ty,rfl⟩
 ·cases h;exact⟨⟨some d,.binOp .neq t x (.const (.slice none 0 0)) ty,e,p,q,none⟩,by rw[a];simp,rfl,rfl,ty,rfl⟩
 ·cases h
theorem zh {P:Program}{t e:TypeId}(c:P.underlying t=some (.slice e))(a:Bool)(ad:Option Addr)(n cap:Nat)(w:World):
  (binOp (if a then .neq else .eql) t (.slice ad n cap) (.slice none 0 0)).run P w = .ok (.bool (if ad.isNone then !a else a)) w:=by
 have f:∀d,(Op.equalIn (d+1) t (.slice ad n cap) (.slice none 0 0)).run P w = .ok ad.isNone w:=fun d=>by unfold Op.equalIn;cases ad<;>simp[run_underlying c]
 have b:(Op.equal t (.slice ad n cap) (.slice none 0 0)).run P w = .ok ad.isNone w:=f 9999;cases a with
 |false =>show(do pure (.bool (←Op.equal t (.slice ad n cap) (.slice none 0 0))):Sem Value).run P w=_;simp[b];cases ad<;>rfl
 |true =>show(do pure (.bool (!(←Op.equal t (.slice ad n cap) (.slice none 0 0)))):Sem Value).run P w=_;simp[b];cases ad<;>rfl
theorem Inv.nilStep {P:Program}{tab:Tab}(ok:ax P tab){ops:Array Oper}{Q:Exit→Act→World→Prop}{cx:Cx}{R:Type}{r:R}{D:DSt}{a:Act}{w:World}(I:Inv cx D [] a.tmps w){t:TypeId}{x:Operand}{n d:Nat}{c:Bool}{K:US→Option R}{o:Oper}
  (f:kF mkU tab (erD D) t x=some n) (hd:d<D.length) (g:∃ty,o.op = .binOp (if c then .neq else .eql) t x (.const (.slice none 0 0)) ty) (h:o.dst=some d) (C:o.guard=none) (e:lM (erD D) d c n K=some r)
  (F:∀A y,K (erD A)=some r→Inv cx A [] (a.put o.dst y).tmps w→Q .normal (a.put o.dst y) w):wpList P ops Q [o] a w:=by
 rw[wX]at f;unfold kF at f;split at f
 case h_2=>cases f
 rename_i sz G O S q;have H:=cL (Tab.ok ok q) rfl;split at f
 case h_2=>cases f
 rename_i k b z rows J;cases f;have B:=I.opd J;have L:a.eval x = .slice b.addr rows.length b.cap:=B.val;obtain⟨ty,g⟩:=g;have i:(execOp a.eval o).run P w = .ok (.value (.bool (if b.addr.isNone then !c else c))) w:=by
  unfold execOp;rw[g];have j:=zh H c b.addr rows.length b.cap w;have l:a.eval (.const (.slice none 0 0))= .slice none 0 0:=rfl;simp only[L,l];have M:(eqGuard (if c=true then BinOp.neq else BinOp.eql) t x (.const (.slice none 0 0)) (.slice b.addr rows.length b.cap) (.slice none 0 0)).run P w = .ok () w:=by cases c<;>rfl
  simp[j,M]
 have s:∀ β:Bool,K (Am.putA (erD D) d (.one (.v (.bool β))))=some r→(if b.addr.isNone then !c else c)=β→Q .normal (a.put o.dst (.bool (if b.addr.isNone then !c else c))) w:=fun β j l=>by
  refine F (Am.putA D d (.one (.v (.bool β)))) _ ?_ ?_
  ·rw[nU];exact j
  ·rw[h,l];exact I.putA hd (Tells.one_v (.bool β) rfl)
 unfold wpList;rw[BZ (by simp[Region.wanted,C])];refine .inl ?_;unfold Oper.wp;rw[i];show wpList P ops Q [] _ w;unfold wpList;unfold lM at e;split at e
 ·split at e
  case h_2=>cases e
  rename_i U j;split at e
  case isFalse=>cases e
  rename_i l;cases e;cases hb:b.addr.isNone with
  |true=>have:=s (!c) j (by simp[hb]);rwa [hb]at this
  |false=>have:=s c l (by simp[hb]);rwa [hb]at this
 ·rename_i u;have hb:b.addr.isNone=false:=by
   cases m:b.addr with
   |some _=>rfl
   |none =>
    exfalso;have N:=B.mem.1 (.s k b z rows) (by simp[af]);have p:b.nil=true:=by
     unfold Dec.addr at m;split at m
     ·cases m
     ·cases v:b.nil with
      |true=>rfl
      |false=>rw[v]at m;cases m
    exact u (by rw[Holds.nilrows N p];rfl)
  exact s c e (by simp[hb])
def kb:Code→List Oper| .region _ ops _=>ops.toList| .seq x y=>kb x++kb y| .cond _ x y=>kb x++kb y| .block _ c=>kb c| .loop c=>kb c|_=>[]
def yk (a:List Nat)(c:Code):Bool:=a.isEmpty ||(kb c).all fun o=>match o.dst with|some t => !a.contains t|none=>true
theorem fd {P:Program}{tab:Tab}(ok:ax P tab){fns:FuncId→Option Func}(hf:dB P fns){B:Base}{C:Sem1}{cx:Cx}(v:cZ P B C cx){h:ee}{n:Nat}{R:Type}{T:Act→Prop}{r:R}:
  ∀(c:Code){K:Exit→US→Option R}{Q:Exit→Act→World→Prop},(∀o∈kb c,∀a y,T a→T (a.put o.dst y))→(∀e D' k w',K e (erD D')=some r→T k→Inv cx D' [] k.tmps w'→Q e k w') →
   ∀{D:DSt}{a:Act}{w:World},Inv cx D [] a.tmps w→T a→cv tab fns C h n c (erD D) K=some r→c.wp P Q a w
 | .skip,K,Q,f,b,D,a,w,I,hd,e=>wp_skip (b .normal D a w e hd I)
 | .region id ops draw,K,Q,f,b,D,a,w,I,hd,e=>by
  simp only[cv]at e;cases draw with
  |true =>
   simp only at e;rw[BT]at e;obtain⟨U,g,s⟩:=e;split at g
   case h_2=>cases g
   rename_i m anc S;have i:∀D1,Inv cx D1 [] a.tmps w→Am.runDL tab fns C (h.take id) (h.late id) ops m anc (erD D1)=some U→(Code.region id ops true).wp P Q a w:=fun D1 G g =>Inv.runDL (tk:=h.take id) (late:=h.late id) ok ok.mixed hf v f (fun D' k w' j p q=>b .normal D' k w' (by rw[j];exact s) p q) G hd g
   split at g
   ·rename_i l M;rw[←jH]at g;exact i _ (I.forget l) g
   ·exact i _ I g
  |false =>
   simp only at e;refine wp_region_list ?_;split at e
   ·rename_i init t x d ng M;rw[BT]at e;obtain⟨U,g,s⟩:=e;obtain⟨o,u,H,N,J⟩:=tJ M;have f:∀A∈init++[o],∀a y,T a→T (a.put A.dst y):=fun A z=>f A (by show A∈ops.toList;rw[u];exact z)
    rw[u];have i:∀D1,Inv cx D1 [] a.tmps w→Am.runOps tab fns C (h.take id) ops init 0 (erD D1)=some U→wpList P ops Q (init++[o]) a w:=fun D1 G g =>
     Inv.runOps2 (tk:=h.take id) ok hf v (fun D' k w' j p q=>by
      subst j;split at s
      case h_2=>cases s
      rename_i n V;rw[bU]at s;split at s
      case isFalse=>cases s
      rename_i O;exact q.nilStep ok V O J H N s (fun W y X Y=>b .normal W _ _ X (f o (by simp) k y p) Y)) init 0 (fun A z=>f A (by simp[z])) G hd g
    split at g
    ·rename_i l M;rw[←jH]at g;exact i _ (I.forget l) g
    ·exact i _ I g
   rw[BT]at e;obtain⟨U,g,s⟩:=e;have i:∀D1,Inv cx D1 [] a.tmps w→Am.runOps tab fns C (h.take id) ops ops.toList 0 (erD D1)=some U→wpList P ops Q ops.toList a w:=fun D1 G g =>Inv.runOps (tk:=h.take id) ok hf v (fun D' k w' j p q=>b .normal D' k w' (by rw[j];exact s) p q) ops.toList 0 f G hd g
   split at g
   ·rename_i l M;rw[←jH]at g;exact i _ (I.forget l) g
   ·exact i _ I g
 | .seq x y,K,Q,f,b,D,a,w,I,hd,e=>by
  simp only[cv]at e;refine wp_seq (fd ok hf v x (fun o u=>f o (Cm.2 (.inl u))) (fun F D' k w' j p q=>?_) I hd e);cases F with
  |normal=>exact fd ok hf v y (fun o u=>f o (Cm.2 (.inr u))) b q p j
  |_=>exact b _ D' k w' j p q
 | .cond c x y,K,Q,f,b,D,a,w,I,hd,e=>by
  simp only[cv,wQ]at e;split at e
  ·rename_i hb;exact wp_cond (I.boolOf hb) (fd ok hf v x (fun o u=>f o (Cm.2 (.inl u))) b I hd e)
  ·rename_i hb;exact wp_cond (I.boolOf hb) (fd ok hf v y (fun o u=>f o (Cm.2 (.inr u))) b I hd e)
  ·cases e
 | .block id c,K,Q,f,b,D,a,w,I,hd,e=>by
  simp only[cv]at e;refine wp_block (fd ok hf v c f (fun F D' k w' j p q=>?_) I hd e);cases F with
  |exit Z =>
   simp only[Exit.inBlock];simp only at j;split
   ·rename_i hid;rw[BZ hid]at j;exact b .normal D' k w' j p q
   ·rename_i hid;rw[Cd hid]at j;exact b _ D' k w' j p q
  |_=>exact b _ D' k w' j p q
 | .exit id,K,Q,f,b,D,a,w,I,hd,e=>wp_exit (b (.exit id) D a w e hd I)
 | .ret,K,Q,f,b,D,a,w,I,hd,e=>wp_ret (b .ret D a w e hd I)
 | .loop c,K,Q,f,b,D,a,w,I,hd,e=>by
  simp only[cv]at e;refine wp_loop_rounds n ?_;have i:∀(m:Nat){D:DSt}{a:Act}{w:World},Inv cx D [] a.tmps w→T a→ka (fun D K=>cv tab fns C h n c D fun e D'=>K e (Am.canon h c e D')) m (erD D) K=some r→Code.rounds P c Q m a w:=by
   intro m;induction m with
   |zero=>intro D a w I hd e;cases e
   |succ m ih =>
    intro D a w I hd e;simp only[ka]at e;rw[rounds_succ];refine fd ok hf v c f (fun F D' k w' j p q=>?_) I hd e;rw[←x5]at j;have L:=q.canon h c F;cases F with
    |normal=>exact ih L p j
    |_=>exact b _ _ k w' j p L
  rw[←re]at e;exact i n (I.atHead h c) hd e
 | .rangeFunc ..,K,Q,f,b,D,a,w,I,hd,e=>by cases e
 | .scope _,K,Q,f,b,D,a,w,I,hd,e=>by cases e
 | .label _,K,Q,f,b,D,a,w,I,hd,e=>by cases e
 | .goto _,K,Q,f,b,D,a,w,I,hd,e=>by cases e
 | .refuse _,K,Q,f,b,D,a,w,I,hd,e=>by cases e
section
variable  {δ β : Type}
def hU (D:St δ β)(h i:Nat):T δ→Option (T δ)
 | .s (.lent a c true) _ _ _=>if a=h∧c=i then(match ah D h i with|some (.s .own d z rows)=>some (.s .own d z rows)|_=>none)else none
 | .s .own _ _ _=>none
 |t=>some t
def iO (D:St δ β)(h:Nat):Nat→List (T δ)→Option (List (T δ))|_,[]=>some []|i,t::ts=>(hU D h i t).bind fun u=>(iO D h (i+1) ts).map fun us=>u::us
def i5:List (T δ)→Option Nat|[]=>none| .s (.lent h _ true) _ _ _::_=>some h|_::ts=>i5 ts
def resOne (M:Mk δ β)(tab:Tab)(D:St δ β):ResultVar→Option (Bool×List (T δ)×Nat)
 | .tmp t =>
  match D[t]? with
  |some (.one u)=>some (false,[u],t)
  |some (.agg ts)=>some (true,ts,t)
  |some (.al h c st lo len)=>
   if lo=0∨0<len then
    match ah D h c with
    |some u=>if u.isOwn then match getN u st with|some (.s .own d z rows)=>some (false,[.s .own (M.win d lo z) z ((rows.drop lo).take len)],h)|_=>none else none
    |none=>none
   else none
  |_=>none
 | .cell a t =>
  match D[a]?,tab.ti t with
  |some (.box _ ts),some ti=>if ts.length=ti.size∧ti.sh ≠ .other∧(ti.sh.agg=false→ts.length=1)then(match i5 ts with|some h=>(iO D h 0 ts).map fun us=>(ti.sh.agg,us,h)|none=>some (ti.sh.agg,ts,a))else none
  |_,_=>none
def resL (M:Mk δ β)(tab:Tab)(D:St δ β):List ResultVar→Option (List (Bool×List (T δ)×Nat))|[]=>some []|r::rs=>(resOne M tab D r).bind fun x=>(resL M tab D rs).map fun xs=>x::xs
def ownAny (r:Bool×List (T δ)×Nat):Bool:=r.2.1.any T.isOwn
end
theorem xY (D:DSt)(h i:Nat)(t:DT):hU (erD D) h i t.er=(hU D h i t).map T.er:=by
 cases t with
 |v x=>rfl
 |any=>rfl
 |s k d z rows =>
  cases k with
  |own=>rfl
  |far=>rw[ak];simp only[hU,BQ,ak]
  |lent b c a =>
   cases a with
   |false=>rw[ak];simp only[hU,BQ,ak]
   |true =>
    rw[ak];simp only[hU];split
    ·rw[dY];cases ah D h i with
     |none=>rfl
     |some u =>
      cases u with
      |s k d z rows=>cases k<;>simp[ak]
      |_=>rfl
    ·rfl
theorem sQ (D:DSt)(h:Nat):∀(i:Nat)(ts:List DT),iO (erD D) h i (erL ts)=(iO D h i ts).map erL
 |_,[]=>rfl
 |i,t::ts=>by
  show(hU (erD D) h i t.er).bind (fun u=>(iO (erD D) h (i+1) (erL ts)).map fun us=>u::us)=((hU D h i t).bind fun u=>(iO D h (i+1) ts).map fun us=>u::us).map erL;rw[xY,sQ D h (i+1) ts];cases hU D h i t with
  |none=>rfl
  |some u =>simp only[BQ,BU];cases iO D h (i+1) ts<;>rfl
theorem rf:∀ts:List DT,i5 (erL ts)=i5 ts
 |[]=>rfl
 |t::ts=>by
  have a:=rf ts;show i5 (t.er::erL ts)=_;cases t with
  |v x=>exact a
  |any=>exact a
  |s k d z rows =>
   rw[ak];cases k with
   |own=>exact a
   |far=>exact a
   |lent h c b=>cases b<;>first|rfl|exact a
abbrev erT (r:Bool×List DT×Nat):Bool×List (T Unit)×Nat:=(r.1,erL r.2.1,r.2.2)
theorem xd (tab:Tab)(D:DSt)(r:ResultVar):resOne mkU tab (erD D) r=(resOne mkD tab D r).map erT:=by
 cases r with
 |tmp t =>
  simp only[resOne,aF];cases D[t]? with
  |none=>rfl
  |some s =>
   cases s with
   |al h c st lo len =>
    simp only[BQ,Sl.er];split
    ·rw[dY];cases ah D h c with
     |none=>rfl
     |some u =>
      simp only[BQ,bw];split
      ·rw[lK];cases getN u st with
       |none=>rfl
       |some n =>
        cases n with
        |s k d z rows =>
         cases k with
         |own=>simp only[BQ,ak,erT];rw[←s7];rfl
         |_=>simp[ak]
        |_=>rfl
      ·rfl
    ·rfl
   |_=>rfl
 |cell a t =>
  simp only[resOne,aF];cases D[a]? with
  |none=>rfl
  |some s =>
   cases s with
   |box b ts =>
    cases tab.ti t with
    |none=>rfl
    |some ti =>
     simp only[BQ,Sl.er,Ci];split
     ·show(match i5 (erL ts)with|some h=>(iO (erD D) h 0 (erL ts)).map fun us=>(ti.sh.agg,us,h)|none=>some (ti.sh.agg,erL ts,a))=_;rw[rf];cases i5 ts with
      |none=>rfl
      |some h =>simp only[sQ];cases iO D h 0 ts<;>rfl
     ·rfl
   |_=>rfl
theorem vk (tab:Tab)(D:DSt):∀rs,resL mkU tab (erD D) rs=(resL mkD tab D rs).map (List.map erT)
 |[]=>rfl
 |r::rs=>by
  simp only[resL,xd,vk tab D rs];cases resOne mkD tab D r with
  |none=>rfl
  |some x =>simp only[BQ,BU];cases resL mkD tab D rs<;>rfl
theorem yU (f:DT→Bool)(g:T Unit→Bool)(h:∀t,g t.er=f t)(ts:List DT):(erL ts).any g=ts.any f:=by simp only[erL,DU];congr 1;funext t;exact h t
def aQ {δ β:Type}:Nat→List (Sl δ β)→List (Nat×HK)
 |_,[]=>[]
 |k,a::as=>match bi a with|some q=>(k,q)::aQ (k+1) as|none=>aQ (k+1) as
section
variable  {δ β : Type}
def lX (D:St δ β)(p:Nat×HK):Option (Bool×List (T δ)):=
 match p.2,D[p.1]? with
 | .box,some (.box _ ts)=>some (true,ts)
 | .one,some (.one u)=>some (false,[u])
 | .one,some .any=>some (false,[.any])
 | .agg,some (.agg ts)=>some (true,ts)
 |_,_=>none
def ia (D:St δ β):List (Nat×HK)→Option (List (Bool×List (T δ)))|[]=>some []|p::a=>(lX D p).bind fun x=>(ia D a).map fun xs=>x::xs
def T.holeF:T δ→T δ| .s .far _ _ _=>.any|t=>t
def T.isAny:T δ→Bool| .any=>true|_=>false
def oV (ts:List (T δ)):Bool:=ts.all T.noLent&&((ts.filter T.isFar).isEmpty ||ts.all fun t => !t.isAny)
def kI (M:Mk δ β)(D:St δ β):List ResultVar→Option ((Bool×List (T δ))×Nat)
 |[.tmp t]=>(fz D (.tmp t)).bind fun h=>match D[h]? with|some (.box b ts)=>if oV ts=true∧0<ts.length then some ((false,.s .own (M.ptr b) ts.length [ts.map T.holeF]:: .any::ts.filter T.isFar),h)else none|_=>none
 |_=>none
def mi (M:Mk δ β)(tab:Tab)(D:St δ β)(hs:List (Nat×HK))(rs:List ResultVar):Option (List (Bool×List (T δ))):=
 match kI M D rs with
 |some (r,t)=>(ia D hs).bind fun os=>if(os.all fun r=>r.2.all T.noLent)=true∧(hs.map (·.1)++[t]).Nodup then some (os++[r])else none
 |none=>(ia D hs).bind fun os=>(resL M tab D rs).bind fun l =>if(os.all fun r=>r.2.all T.noLent)=true∧(l.all fun r=>r.2.1.all T.noLent)=true∧(hs.map (·.1)++(l.filter ownAny).map (·.2.2)).Nodup then some (os++l.map fun r=>(r.1,r.2.1))else none
end
theorem yZ (s:DSl):bi s.er=bi s:=by
 cases s with
 |one u=>simp only[Sl.er,bi,bw]
 |agg ts =>simp only[Sl.er,bi];rw[show(List.map T.er ts).any T.isOwn=ts.any T.isOwn by rw[DU];congr 1;funext t;exact bw t]
 |_=>rfl
theorem pM:∀(k:Nat)(ad:List DSl),aQ k (ad.map Sl.er)=aQ k ad
 |_,[]=>rfl
 |k,a::as=>by simp only[Cc,aQ,yZ,pM (k+1) as]
theorem xa (D:DSt)(p:Nat×HK):lX (erD D) p=(lX D p).map fun r=>(r.1,erL r.2):=by
 obtain⟨i,k⟩:=p;simp only[lX,aF];cases D[i]? with
 |none=>cases k<;>rfl
 |some s=>cases s<;>cases k<;>rfl
theorem s4 (D:DSt):∀a,ia (erD D) a=(ia D a).map erR
 |[]=>rfl
 |p::a=>by
  simp only[ia,xa,s4 D a];cases lX D p with
  |none=>rfl
  |some x =>simp only[BQ,BU];cases ia D a<;>rfl
def m8 {δ β:Type}(M:Mk δ β)(tab:Tab)(D:St δ β)(hs:List (Nat×HK))(rs:List ResultVar):Option (List (Bool×List (T δ))):=
 if(hs.all fun p=>match p.2 with| .one=>true|_=>false)=true then(mi M tab D [] rs).map fun r=>hs.map (fun _=>(false,[.any]))++r else none
theorem y5 (t:DT):t.er.isAny=t.isAny:=by
 cases t with
 |v x=>rfl
 |any=>rfl
 |s k d z r=>rw[ak];rfl
theorem ya (t:DT):t.er.holeF=t.holeF.er:=by
 cases t with
 |v x=>rfl
 |any=>rfl
 |s k d z r=>cases k<;>simp only[T.holeF,ak]<;>rfl
theorem yX (ts:List DT):oV (erL ts)=oV ts:=by
 unfold oV;have a:(erL ts).all T.noLent=ts.all T.noLent:=bT T.noLent T.noLent b4 ts;have b:((erL ts).filter T.isFar).isEmpty=(ts.filter T.isFar).isEmpty:=by
  unfold erL;rw[DV];have:(T.isFar ∘ T.er:DT→Bool)=T.isFar:=by funext t;exact oY t
  rw[this,List.isEmpty_map]
 have c:((erL ts).all fun t => !t.isAny)=ts.all fun t => !t.isAny:=bT (fun t => !t.isAny) (fun t => !t.isAny) (fun t=>by rw[y5]) ts
 rw[a,b,c]
theorem xc (D:DSt)(rs:List ResultVar):kI mkU (erD D) rs=(kI mkD D rs).map fun p=>((p.1.1,erL p.1.2),p.2):=by
 unfold kI;split
 ·rename_i t;rw[mn];cases fz D (.tmp t)with
  |none=>rfl
  |some h =>
  simp only[BU];rw[aF];cases D[h]? with
  |none=>rfl
  |some s =>
   cases s with
   |box b ts =>
    simp only[BQ,Sl.er];rw[show oV (List.map T.er ts)=oV ts from yX ts,Ci];split
    ·simp only[BQ,erL,Cc,Cu,ak];have a:(ts.map T.er).map T.holeF=(ts.map T.holeF).map T.er:=by rw[Ct,Ct];exact Cl fun t _=>ya t
     have c:(ts.map T.er).filter T.isFar=(ts.filter T.isFar).map T.er:=by
      rw[DV];have:(T.isFar ∘ T.er:DT→Bool)=T.isFar:=by funext t;exact oY t
      rw[this]
     rw[a,c];rfl
    ·rfl
   |_=>rfl
 ·rfl
theorem vh (tab:Tab)(D:DSt)(hs:List (Nat×HK))(rs:List ResultVar):mi mkU tab (erD D) hs rs=(mi mkD tab D hs rs).map erR:=by
 unfold mi;rw[s4,vk,xc];have a:∀os:bA,((erR os).all fun r=>r.2.all T.noLent)=(os.all fun r=>r.2.all T.noLent):=by intro os;unfold erR;rw[CQ];congr 1;funext r;exact bT T.noLent T.noLent b4 r.2
 cases b:kI mkD D rs with
 |some p =>
  obtain⟨r,t⟩:=p;simp only[BQ];cases ia D hs with
  |none=>rfl
  |some os =>
   simp only[BQ,BU,a];split
   ·simp only[BQ,ml];rfl
   ·rfl
 |none =>
 simp only[Eg];cases ia D hs with
 |none=>rfl
 |some os =>
  simp only[BQ,BU];cases resL mkD tab D rs with
  |none=>rfl
  |some l =>
   simp only[BQ,BU];have a:((erR os).all fun r=>r.2.all T.noLent)=(os.all fun r=>r.2.all T.noLent):=by unfold erR;rw[CQ];congr 1;funext r;exact bT T.noLent T.noLent b4 r.2
   have c:((l.map erT).all fun r=>r.2.1.all T.noLent)=(l.all fun r=>r.2.1.all T.noLent):=by rw[CQ];congr 1;funext r;exact bT T.noLent T.noLent b4 r.2.1
   have d:((l.map erT).filter ownAny).map (·.2.2)=(l.filter ownAny).map (·.2.2):=by
    rw[DV,Ct];have:(ownAny ∘ erT:Bool×List DT×Nat→Bool)=ownAny:=by funext r;exact yU T.isOwn T.isOwn bw r.2.1
    rw[this];rfl
   rw[a,c,d];split
   ·simp only[BQ,ml];congr 2;unfold erR;rw[Ct,Ct];rfl
   ·rfl
theorem yY (tab:Tab)(D:DSt)(hs:List (Nat×HK))(rs:List ResultVar):m8 mkU tab (erD D) hs rs=(m8 mkD tab D hs rs).map erR:=by
 unfold m8;split
 ·rw[vh,CL,CL];congr 1;funext r;simp only[Function.comp,ml];congr 1;unfold erR;rw[Ct];rfl
 ·rfl
structure sa (P:Program)(D:DSt)(tm:Array Value)(w:World)(r:ResultVar)(x:Bool×List DT×Nat)(y:Value):Prop where
 run:(match r with| .tmp t=>(pure (tm.getD t undef):Sem Value)| .cell a t=>do loadVar t (←asAddr (tm.getD a undef))).run P w = .ok y w
 part:VPart (x.1,x.2.1) y
 holds:∀t∈x.2.1,Holds w t
 own:∀t∈x.2.1,t.isOwn=true→OwnT w t
 home:∃s,D[x.2.2]?=some s∧∀b,(x.2.1.flatMap ownR).count b≤(ownBl s).count b
theorem mg {D:DSt}{h:Nat}:∀{k:Nat}{ts us:List DT},iO D h k ts=some us→us.length=ts.length∧∀(j:Nat)(t u:DT),ts[j]?=some t→us[j]?=some u →
  (u=t∧t.isOwn=false)∨(∃d z rows,t = .s (.lent h (k+j) true) d z rows)∧ah D h (k+j)=some u∧∃d z rows,u = .s .own d z rows
 |k,[],us,e=>by cases e;exact⟨rfl,fun j t u a=>by simp at a⟩
 |k,t::ts,us,e=>by
  unfold iO at e;rw[BT]at e;obtain⟨u,a,e⟩:=e;rw[BS]at e;obtain⟨i,l,rfl⟩:=e;obtain⟨m,n⟩:=mg l;refine⟨by simp[m],fun j t' u' b f=>?_⟩;cases j with
  |zero =>
   simp only[CO,Ck]at b f;subst b;subst f;cases t with
   |v x=>cases a;exact .inl ⟨rfl,rfl⟩
   |any=>cases a;exact .inl ⟨rfl,rfl⟩
   |s kd d z rows =>
    cases kd with
    |own=>cases a
    |far=>simp only[hU,Ck]at a;subst a;exact .inl ⟨rfl,rfl⟩
    |lent q c o =>
     cases o with
     |false=>simp only[hU,Ck]at a;subst a;exact .inl ⟨rfl,rfl⟩
     |true =>
      simp only[hU]at a;split at a
      case isFalse=>cases a
      rename_i hc;obtain⟨rfl,rfl⟩:=hc;split at a
      ·rename_i r w g p;cases a;exact .inr ⟨⟨_,_,_,rfl⟩,p,_,_,_,rfl⟩
      ·cases a
  |succ j =>simp only[C7]at b f;have:=n j t' u' b f;rw[show k+(j+1)=k+1+j by omega];exact this
theorem pE (cs:List DT)(b:Nat):∀(k:Nat)(us:List DT),(∀(j:Nat)(u:DT),us[j]?=some u→ownR u=[]∨cs[k+j]?=some u)→(us.flatMap ownR).count b≤((cs.drop k).flatMap ownR).count b
 |_,[],_=>by simp
 |k,u::us,h=>by
  have c:=pE cs b (k+1) us fun j v hv=>by rw[show k+1+j=k+(j+1) by omega];exact h (j+1) v (by simpa using hv)
  have hd:((cs.drop (k+1)).flatMap ownR).count b≤((cs.drop k).flatMap ownR).count b:=by
   cases hc:cs.drop k with
   |nil=>rw[show cs.drop (k+1)=[]from by rw[←DY,hc];rfl];exact Cz _
   |cons x xs =>rw[show cs.drop (k+1)=xs from by rw[←DY,hc];rfl,B9,Ce];omega
  rw[B9,Ce];rcases h 0 u rfl with q|q
  ·rw[q];simp only[DZ];omega
  ·rw[Nat.add_zero]at q;have a:k<cs.length:=by
    rcases BY k cs.length with g|g
    ·exact g
    ·rw[BV g]at q;cases q
   have e:cs.drop k=u::cs.drop (k+1):=by rw[DD a];rw[BW a]at q;rw[Option.some.inj q]
   rw[e,B9,Ce];omega
theorem oD:∀{ts:List DT}{h:Nat},i5 ts=some h→∃(i c:Nat) (d:Dec) (z:Nat) (rows:List (List DT)),ts[i]?=some (T.s (.lent h c true) d z rows)
 |[],h,e=>by cases e
 |x::xs,h,e=>by
  have step:i5 xs=some h→∃(i c:Nat) (d:Dec) (z:Nat) (rows:List (List DT)),(x::xs)[i]?=some (T.s (.lent h c true) d z rows):=fun g=>by obtain⟨i,c,d,z,rows,q⟩:=oD g;exact⟨i+1,c,d,z,rows,by simpa using q⟩
  cases x with
  |v x=>exact step e
  |any=>exact step e
  |s k d z rows =>
   cases k with
   |own=>exact step e
   |far=>exact step e
   |lent b c a =>
    cases a with
    |false=>exact step e
    |true=>cases e;exact⟨0,c,d,z,rows,rfl⟩
theorem Inv.resOne {P:Program}{tab:Tab}(ok:ax P tab){cx:Cx}{D:DSt}{tm:Array Value}{w:World}(I:Inv cx D [] tm w){r:ResultVar}{x:Bool×List DT×Nat}
  (e:resOne mkD tab D r=some x):∃y,sa P D tm w r x y:=by
 cases r with
 |tmp t =>
  simp only[Am.resOne]at e;split at e
  ·rename_i u h;cases e;have hv:=I.val t _ h;have o:=I.mem _ (BR h);exact⟨_,⟨rfl,⟨u,rfl,hv⟩,fun v l=>o.1 v (by simpa[af]using l),fun v l=>o.2.1 v (by simpa[rootsO]using l),_,h,fun b=>by simp[ownBl]⟩⟩
  ·rename_i ts h;cases e;have hv:=I.val t _ h;have o:=I.mem _ (BR h);exact⟨_,⟨rfl,hv,o.1,o.2.1,_,h,fun b=>Cz _⟩⟩
  ·rename_i h c st lo len hD;split at e
   case isFalse=>cases e
   rename_i G;split at e
   case h_2=>cases e
   rename_i u m;split at e
   case isFalse=>cases e
   rename_i O;split at e
   case h_2=>cases e
   rename_i d z rows Y;cases e;have hv:=I.val t _ hD;obtain⟨d',z',n,ad,⟨t1,Q,R,k2,F0,q3,q4⟩,F6,H,S,F1⟩:=hv;rw[m]at Q;cases Q;rw[Y]at q3;cases q3;obtain⟨s,hs,J,hr,K,F5⟩:=aO m;have o:=I.mem s J;have g5:=Holds.getN st (o.1 u hr) Y;have g6:=OwnT.getN st (o.2.1 u K O) Y;refine⟨_,⟨rfl,⟨_,rfl,?_⟩,fun v l=>?_,fun v l _=>?_,s,hs,fun b=>?_⟩⟩
   ·rw[H];exact pz (by omega) g5.cap g6.sp rfl S F1 g5.nilrows G
   ·simp at l;subst l;exact g5.win lo len (by omega)
   ·simp at l;subst l;exact g6.win lo len (by omega)
   ·have Z:=ku (k := .own) (k' := .own) (d:=d) (z:=z) rows lo len b;have h2:=dP st Y b;have h3:(bl u).count b≤(ownBl s).count b:=by
     unfold ah at m;simp only[BT]at m;obtain⟨cs,⟨s',U,L⟩,A⟩:=m;rw[hs]at U;cases U;have h4:=gH L b;have h5:=aE ownR (T.any:DT) b cs c u A;have h6:(ownR (T.any:DT)).count b=0:=rfl;have h7:ownR u=bl u:=by simp[ownR,O]
     rw[h7]at h5;omega
    simp only[B9,Df,Cp,ownR,T.isOwn,CI];omega
  ·cases e
 |cell a t =>
  simp only[Am.resOne]at e;split at e
  ·rename_i b ts ti hD F2;split at e
   case isFalse=>cases e
   rename_i hc;have hv:=I.val a _ hD;have o:=I.mem _ (BR hD);have H:tm.getD a undef = .pointer (some ⟨b.1,b.2,none⟩):=hv;have F:∀us:List DT,Cells w b.1 b.2 us→us.length=ts.length→(∀t∈us,t.isOwn=true→OwnT w t)→∀q:Nat,(∃s,D[q]?=some s∧∀x,(us.flatMap ownR).count x≤(ownBl s).count x) →
     ∃y,sa P D tm w (.cell a t) (ti.sh.agg,us,q) y:=by
    intro us C hl O q hq;obtain⟨y,Z,h2⟩:=C.load (Tab.ok ok F2) hc.2.1 (hl.trans hc.1) (fun g=>hl.trans (hc.2.2 g));refine⟨y,⟨?_,?_,C.2,O,hq⟩⟩
    ·show((do loadVar t (←asAddr (tm.getD a undef))):Sem Value).run P w=_;rw[H];exact Z
    ·unfold VPart;simp only;split at h2
     ·rename_i S;rw[BZ S];exact h2
     ·rename_i S;rw[Cd S];exact h2
   split at e
   ·rename_i h F3;rw[BS]at e;obtain⟨us,hb,rfl⟩:=e;obtain⟨hl,hj⟩:=mg hb;simp only[Db]at hj;have hk:=I.kind _ (BR hD);have p:∀(j:Nat)(u:DT),us[j]?=some u→∃t,ts[j]?=some t:=fun j u m=>by
     have:j<us.length:=by
      rcases BY j us.length with g|g
      ·exact g
      ·rw[BV g]at m;cases m
     exact⟨_,BW (by omega)⟩
    obtain⟨i1,c1,d1,z1,r1,ht1⟩:=oD F3;rcases hk _ (by simpa[af]using BR ht1)with⟨-,q, -⟩|⟨t0,V,k2, -, -⟩
    ·cases q
    obtain⟨s,hs,J, -, -, -⟩:=aO V;obtain⟨cs,L,M⟩:∃cs,ap s=some cs∧∀i,ah D h i=cs[i]?:=by unfold ah at V ⊢;rw[hs]at V ⊢;simp only[BU,BT]at V ⊢;obtain⟨cs,Q, -⟩:=V;exact⟨cs,Q,fun i=>by rw[Q];rfl⟩
    have F7:=I.mem s J;have each:∀(j:Nat)(t u:DT),ts[j]?=some t→us[j]?=some u→Holds w u∧(u.isOwn=true→OwnT w u)∧∀y,VT t y→VT u y:=by
     intro j t u g1 g2;have A:=BR g1;rcases hj j t u g1 g2 with⟨rfl,q⟩|⟨⟨d,z,rows,rfl⟩,R,d',z',N,rfl⟩
     ·exact⟨o.1 _ A,fun g=>(by rw[q]at g;cases g),fun y H=>H⟩
     ·obtain⟨s2,F8,W,hr,K, -⟩:=aO R;have X:=I.mem s2 W;rcases hk _ A with⟨-,q, -⟩|⟨t2,p1,p2, -,p3⟩
      ·cases q
      rw[R]at p1;cases p1;obtain⟨z3,F4,p4,p5⟩:=p3 rfl;cases p4;exact⟨X.1 _ hr,fun _=>X.2.1 _ K rfl,fun y H=>by have:y = .slice d.addr rows.length d.cap:=H;show y = .slice d.addr N.length d.cap;rw[p5];exact this⟩
    refine F us ⟨?_,fun u m=>?_⟩ hl (fun u m O=>?_) h ⟨s,hs,fun x=>?_⟩
    ·obtain⟨c,e,f,l1,l2⟩:=o.2.2.1;refine⟨c,e,f,l1,fun j u m=>?_⟩;obtain⟨t,A⟩:=p j u m;obtain⟨y,y1,y2⟩:=l2 j t A;exact⟨y,y1,(each j t u A m).2.2 y y2⟩
    ·obtain⟨j,B⟩:=BX m;obtain⟨t,A⟩:=p j u B;exact(each j t u A B).1
    ·obtain⟨j,B⟩:=BX m;obtain⟨t,A⟩:=p j u B;exact(each j t u A B).2.1 O
    ·have Z:=pE cs x 0 us fun j u m=>by
      obtain⟨t,A⟩:=p j u m;rcases hj j t u A m with⟨rfl,q⟩|⟨-,R, -⟩
      ·exact .inl (by simp[ownR,q])
      ·rw[Db];exact .inr (by rw[←M];exact R)
     rw[Cg]at Z;have h4:=gH L x;omega
   ·cases e;exact F ts ⟨o.2.2.1,o.1⟩ rfl o.2.1 a ⟨_,hD,fun x=>by simp only[ownBl,CU];omega⟩
  ·cases e
theorem KindR.of {cx:Cx}{D:DSt}{t:DT}(h:t.noLent=true)(b:aB cx D t):KindR cx t:=by
 cases t with
 |v x=>exact .inr ⟨rfl,fun y a=>by simp[bl]at a⟩
 |any=>exact .inr ⟨rfl,fun y a=>by simp[bl]at a⟩
 |s k d z r=>cases k<;>first|exact .inl rfl|exact .inr ⟨rfl,b⟩|cases h
theorem Inv.resKind {cx:Cx}{D:DSt}{tm:Array Value}{w:World}(I:Inv cx D [] tm w){tab:Tab}{r:ResultVar}{x:Bool×List DT×Nat}(e:Am.resOne mkD tab D r=some x):∀t∈x.2.1,t.noLent=true→KindR cx t:=by
 cases r with
 |tmp t =>
  simp only[Am.resOne]at e;split at e
  ·rename_i u h;cases e;exact fun v hv f=>KindR.of f (I.kind _ (BR h) v (by simpa[af]using hv))
  ·rename_i ts h;cases e;exact fun v hv f=>KindR.of f (I.kind _ (BR h) v hv)
  ·split at e
   case isFalse=>cases e
   split at e
   case h_2=>cases e
   split at e
   case isFalse=>cases e
   split at e
   case h_2=>cases e
   cases e;intro v hv _;simp only[B4]at hv;subst hv;exact .inl rfl
  ·cases e
 |cell a t =>
  simp only[Am.resOne]at e;split at e
  ·rename_i b ts ti hD k;split at e
   case isFalse=>cases e
   split at e
   ·rename_i h l;rw[BS]at e;obtain⟨us,hb,rfl⟩:=e;obtain⟨f,m⟩:=mg hb;intro u n i;obtain⟨j,c⟩:=BX n;have o:j<us.length:=by
     rcases BY j us.length with g|g
     ·exact g
     ·rw[BV g]at c;cases c
    have ht:ts[j]?=some ts[j]:=BW (by omega);rcases m j _ u ht c with⟨q, -⟩|⟨-, -,d,z,rows,q⟩
    ·rw[q]at i ⊢;exact KindR.of i (I.kind _ (BR hD) _ (BR ht))
    ·rw[q];exact .inl rfl
   ·cases e;exact fun v hv f=>KindR.of f (I.kind _ (BR hD) v hv)
  ·cases e
theorem Inv.resKindL {cx:Cx}{D:DSt}{tm:Array Value}{w:World}(I:Inv cx D [] tm w){tab:Tab}:∀{rs:List ResultVar}{l:List (Bool×List DT×Nat)},Am.resL mkD tab D rs=some l→∀x∈l,∀t∈x.2.1,t.noLent=true→KindR cx t
 |[],l,e,x,hx=>by cases e;cases hx
 |r::rs,l,e,x,hx=>by
  simp only[Am.resL,BT,BS]at e;obtain⟨y,a,ys,b,rfl⟩:=e;rcases Cq.1 hx with rfl|hx
  ·exact I.resKind a
  ·exact I.resKindL b x hx
def nG (tm:Array Value):ResultVar→Sem Value
 | .tmp t=>pure (tm.getD t undef)
 | .cell a t=>do loadVar t (←asAddr (tm.getD a undef))
theorem Inv.resL {P:Program}{tab:Tab}(ok:ax P tab){cx:Cx}{D:DSt}{tm:Array Value}{w:World}(I:Inv cx D [] tm w):∀{rs:List ResultVar}{l:List (Bool×List DT×Nat)},
  resL mkD tab D rs=some l→∃ys:List Value,ys.length=l.length∧(rs.mapM (nG tm)).run P w = .ok ys w∧∀(i:Nat)(x:Bool×List DT×Nat)(y:Value),l[i]?=some x→ys[i]?=some y→∃r,sa P D tm w r x y
 |[],l,e=>by cases e;exact⟨[],rfl,by simp,fun i x y h=>by simp at h⟩
 |r::rs,l,e=>by
  simp only[Am.resL,BT,BS]at e;obtain⟨x,c,xs,d,rfl⟩:=e;obtain⟨y,b⟩:=I.resOne ok c;obtain⟨ys,f,g,j⟩:=Inv.resL ok I d;refine⟨y::ys,by simp[f],?_,fun i k m hi a=>?_⟩
  ·have n:(nG tm r).run P w = .ok y w:=by have:=b.run;cases r<;>exact this
   simp[List.mapM_cons,n,g]
  ·cases i with
   |zero=>simp at hi a;subst hi;subst a;exact⟨r,b⟩
   |succ i=>simp at hi a;exact j i k m hi a
def nH:List Value→Value|[y]=>y|ys=>.tuple ys.toArray
theorem oM {P:Program}(fn:Func)(tm:Array Value)(w:World){ys:List Value}(h:(fn.results.toList.mapM (nG tm)).run P w = .ok ys w):
  (results fn tm).run P w = .ok (nH ys) w:=by
 have e:results fn tm=(do let a ←fn.results.mapM (nG tm);pure (if h:a.size=1 then a[0]else .tuple a)):=by unfold results;congr 1
 rw[e,Array.mapM_eq_mapM_toList];simp only[Sem.run_bind,Sem.run_map,h]
 match ys with
 |[]=>simp[nH]
 |[y]=>simp[nH]
 |y::b::ys=>simp[nH]
theorem qM:∀(l:List (List Nat×Nat))(D:DSt),(l.map (·.2)).Nodup→(∀x∈l,∃s,D[x.2]?=some s∧∀b,x.1.count b≤(ownBl s).count b)→∀b,(l.flatMap (·.1)).count b≤az D b
 |[],D,_,_,b=>by simp
 |x::l,D,i,h,b=>by
  rw[Cc,Eh]at i;obtain⟨a,c⟩:=i;obtain⟨s,hs,hc⟩:=h x (by simp);have k:=aE ownBl (Sl.any:DSl) b D x.2 s hs;have m:(ownBl (Sl.any:DSl)).count b=0:=rfl;have n:=qM l (D.set x.2 .any) c (fun y j=>by
   obtain⟨s',d,f⟩:=h y (by simp[j]);have g:x.2≠y.2:=fun e=>a (by rw[e];exact B7.2 ⟨y,j,rfl⟩)
   exact⟨s',by rw[B3 g];exact d,f⟩) b
  have o:=hc b;rw[B9,Ce];unfold az at *;omega
theorem wu (l:List (Bool×List DT×Nat)):(l.flatMap fun r=>r.2.1.flatMap ownR)=((l.filter ownAny).flatMap fun r=>r.2.1.flatMap ownR):=by
 induction l with
 |nil=>rfl
 |cons y l' b =>
  by_cases a:ownAny y=true
  ·rw[List.filter_cons_of_pos a,B9,B9,b]
  ·rw[List.filter_cons_of_neg a,B9,b];have:y.2.1.flatMap ownR=[]:=by
    rw[Ca];intro t c;refine bW ?_;cases d:t.isOwn with
    |false=>rfl
    |true=>exact absurd (by unfold ownAny;rw[C4];exact⟨t,c,d⟩) a
   rw[this];rfl
theorem qL {cx:Cx}{D:DSt}{tm:Array Value}{w:World}(I:Inv cx D [] tm w){w0:World}{X:List Nat}{Y:Nat→Prop}:∀(ad:List DSl)(j:List Value)(k:Nat){os:bA},ad.length=j.length →
  (∀(i:Nat)(a:DSl)(y:Value),ad[i]?=some a→j[i]?=some y→AOk w0 X Y a y)→ia D (aQ k ad)=some os →
  (∀(i:Nat)(a:DSl)(y:Value),ad[i]?=some a→j[i]?=some y→(bi a).isSome=true→tm.getD (k+i) undef=y) →
  OutsOk w ad j os∧(∀r∈os,∃s∈D,∀t∈r.2,t = .any∨t∈rootsO s∧t∈af s)∧(∀p∈aQ k ad,p.1<D.length) ∧
   ∀b,(aJ os).count b+(ad.flatMap cf).count b≤(((aQ k ad).map fun p=>(ownBl (D[p.1]?.getD .any),p.1)).flatMap (·.1)).count b
 |[],j,k,os,_,_,e,_=>by cases e;refine⟨?_,fun r h=>(by cases h),fun p h=>(by cases h),fun b=>by simp[aJ]⟩;cases j<;>exact rfl
 |a::as,[],k,os,A,_,_,_=>by simp at A
 |a::as,y::ys,k,os,A,Q,e,R=>by
  have S:=fun {os}=>qL I (w0:=w0) (X:=X) as ys (k+1) (os:=os) (by simpa using A) (fun i B C n v=>Q (i+1) B C (by simpa using n) (by simpa using v))
  have l:∀(i:Nat)(a:DSl)(y:Value),as[i]?=some a→ys[i]?=some y→(bi a).isSome=true→tm.getD (k+1+i) undef=y:=fun i B C n v V=>by rw[show k+1+i=k+(i+1) by omega];exact R (i+1) B C (by simpa using n) (by simpa using v) V
  unfold aQ at e ⊢;cases c:bi a with
  |none =>
   rw[c]at e;obtain⟨F,G,H,J⟩:=S e l;have hb:cf a=[]:=by cases a<;>first|rfl|cases c
   refine⟨?_,G,H,fun b=>?_⟩
   ·unfold OutsOk;rw[c];exact F
   ·rw[B9,hb,Co];exact J b
  |some q =>
   rw[c]at e;simp only[ia,BT,BS]at e;obtain⟨o,f,K,W,rfl⟩:=e;obtain⟨F,G,H,J⟩:=S W l;have L:tm.getD k undef=y:=R 0 a y rfl rfl (by rw[c];rfl);have m:=Q 0 a y rfl rfl;have M:pu w a y o∧∃s,D[k]?=some s∧(∀t∈o.2,t = .any∨t∈rootsO s∧t∈af s)∧∀b,(o.2.flatMap ownR).count b+(cf a).count b≤(ownBl s).count b:=by
    unfold lX at f;split at f
    ·rename_i z ts' g hD;cases f;have hb:∃b ts,a = .box b ts:=yu (by rw[c];exact Ds some g);obtain⟨b,ts,rfl⟩:=hb;have N:y = .pointer (some ⟨b.1,b.2,none⟩):=m.val D;have v2:tm.getD k undef = .pointer (some ⟨z.1,z.2,none⟩):=I.val k _ hD;rw[L,N]at v2;simp only[Value.pointer.injEq,Ck,Addr.mk.injEq]at v2;have O:z=b:=by obtain⟨p1,p2⟩:=b;obtain⟨p3,p4⟩:=z;simp at v2;simp[v2.1,v2.2]
     subst O;have U:=I.mem _ (BR hD);exact⟨⟨rfl,U.2.2.1,U.2.2.2⟩,_,hD,fun t d=>.inr ⟨d,d⟩,fun x=>by simp only[ownBl,cf,CU,DZ];omega⟩
    ·rename_i u g hD;cases f;have hb:∃u,a = .one u:=o6 (by rw[c];exact Ds some g);obtain⟨P,rfl⟩:=hb;have v2:=I.val k _ hD;rw[L]at v2;exact⟨⟨⟨u,rfl,v2⟩,rfl⟩,_,hD,fun t d=>.inr ⟨by simpa[rootsO]using d,by simpa[af]using d⟩,fun x=>by simp[ownBl,cf]⟩
    ·rename_i g hD;cases f;have hb:∃u,a = .one u:=o6 (by rw[c];exact Ds some g);obtain⟨P,rfl⟩:=hb;have N:VT P y:=m.val D;exact⟨⟨⟨.any,rfl,N.one⟩,rfl⟩,_,hD,fun t d=>.inl (by simpa using d),fun x=>by simp[ownBl,cf,ownR,T.isOwn]⟩
    ·rename_i ts g hD;cases f;have hb:∃u,a = .agg u:=yt (by rw[c];exact Ds some g);obtain⟨P,rfl⟩:=hb;have v2:=I.val k _ hD;rw[L]at v2;exact⟨⟨v2,rfl⟩,_,hD,fun t d=>.inr ⟨d,d⟩,fun x=>by simp[ownBl,cf]⟩
    ·cases f
   obtain⟨Z,s,k2,k3,k4⟩:=M;refine⟨?_,fun r hr=>?_,fun p hp=>?_,fun b=>?_⟩
   ·unfold OutsOk;rw[c];exact⟨o,K,rfl,Z,F⟩
   ·rcases Cq.1 hr with rfl|hr
    ·exact⟨s,BR k2,k3⟩
    ·exact G r hr
   ·rcases Cq.1 hp with rfl|hp
    ·exact bE k2
    ·exact H p hp
   ·have n:=k4 b;have v:=J b;simp only[aJ,B9,Cc,Ce,k2,DJ]at *;omega
theorem Inv.rootKind {cx:Cx}{D:DSt}{P:List (DT×Value)}{tm:Array Value}{w:World}(I:Inv cx D P tm w){s:DSl}(hs:s∈D){t:DT}(a:t∈rootsO s)(c:t.noLent=true):KindR cx t:=by
 have d:=I.kind s hs;cases s with
 |one u=>exact KindR.of c (d t (by simpa[af,rootsO]using a))
 |agg ts=>exact KindR.of c (d t a)
 |box b ts=>exact KindR.of c (d t a)
 |tup rs=>exact KindR.of c (d t a)
 |_=>simp[rootsO]at a
theorem wd {t:DT}(h:t.noLent=true):t.holeF.fine=true:=by
 cases t with
 |s k d z r=>cases k<;>first|rfl|cases h
 |_=>rfl
theorem xl {t:DT}:ownR t.holeF=ownR t:=by
 cases t with
 |s k d z r=>cases k<;>rfl
 |_=>rfl
theorem rj:∀{ts:List DT},(ts.filter T.isFar=[]∨∀t∈ts,t.isAny=false)→fillF (ts.map T.holeF) (ts.filter T.isFar)=ts
 |[],_=>rfl
 |t::ts,h=>by
  have c:ts.filter T.isFar=[]∨∀t∈ts,t.isAny=false:=h.imp (fun q=>by rw[Dx]at q;split at q<;>first|cases q|exact q) fun q u g=>q u (by simp[g])
  have a:=rj c;cases hf:t.isFar with
  |true =>
   rw[Dx,BZ hf,Cc];have:t.holeF = .any:=by
    cases t with
    |s k d z r=>cases k<;>first|rfl|cases hf
    |_=>cases hf
   rw[this];show t::fillF _ _=_;rw[a]
  |false =>
   rw[Dx,Cd (by rw[hf];exact CF),Cc];have e:t.holeF=t:=by
    cases t with
    |s k d z r=>cases k<;>first|rfl|cases hf
    |_=>rfl
   rw[e];rcases h with h|h
   ·have hz:ts.filter T.isFar=[]:=by rw[Dx,Cd (by rw[hf];exact CF)]at h;exact h
    rw[hz]at a ⊢;show t::fillF _ _=_;rw[a]
   ·have i:=h t (by simp);cases b:ts.filter T.isFar with
    |nil =>rw[b]at a;show t::fillF _ _=_;rw[a]
    |cons f fs =>
     rw[b]at a;cases t with
     |any=>cases i
     |v x=>show T.v x::fillF _ _=_;rw[a]
     |s k d z r=>show T.s k d z r::fillF _ _=_;rw[a]
theorem yj {w:World}{t:DT}(h:t.fine=true)(a:t.isOwn=true→OwnT w t):OwnT w t:=by
 cases t with
 |v x=>exact .v x
 |any=>exact .any
 |s k d z r=>cases k<;>first|exact a rfl|cases h
theorem Inv.endPtr {P:Program}{D:DSt}{tm:Array Value}{w0 w:World}{X:List Nat}{Y:Nat→Prop}(I:Inv ⟨w0,X,Y⟩ D [] tm w){ad:List DSl}{W:List Value}(hA:ArgsOk w0 X Y ad W)
  (hT:∀(i:Nat)(a:DSl)(y:Value),ad[i]?=some a→W[i]?=some y→(bi a).isSome=true→tm.getD i undef=y) {fn:Func} {r:Bool×List DT} {t:Nat}
  (l:kI mkD D fn.results.toList=some (r,t)) {os:bA} (h0:ia D (aQ 0 ad)=some os) (F0:(os.all fun r=>r.2.all T.noLent)=true) (F1:((aQ 0 ad).map (·.1)++[t]).Nodup):
  ∃v od rd,os++[r]=od++rd∧(results fn tm).run P w = .ok v w∧OutsOk w ad W od∧RetOk w0 X Y w (ad.flatMap cf) od rd v:=by
 unfold kI at l;split at l
 case h_2=>cases l
 rename_i t' F2;rw[BT]at l;obtain⟨h',A,l⟩:=l;split at l
 case h_2=>cases l
 rename_i b ts hD;split at l
 case isFalse=>cases l
 rename_i hc;cases l;obtain⟨G,F8⟩:=hc;unfold oV at G;rw[Cf,Dy]at G;have O:∀u∈ts,u.noLent=true:=fun u hu=>B2.1 G.1 u hu
 have M:Am.fillF (ts.map T.holeF) (ts.filter T.isFar)=ts:=rj (G.2.imp (fun q=>by simpa using q) fun q u hu=>by simpa using B2.1 q u hu);have C:∀u∈ts.map T.holeF,∃v∈ts,u=v.holeF:=fun u hu=>by obtain⟨v,hv,rfl⟩:=B7.1 hu;exact⟨v,hv,rfl⟩
 have n:∀u∈ts.map T.holeF,u.fine=true:=fun u hu=>by obtain⟨v,hv,rfl⟩:=C u hu;exact wd (O v hv)
 have m:∀(v:DT),v.holeF = .any∨v.holeF=v:=fun v=>by
  cases v with
  |s k d z r=>cases k<;>first|exact .inl rfl|exact .inr rfl
  |_=>exact .inr rfl
 obtain⟨o1,o2,o3,o4⟩:=qL I ad W 0 hA.1 hA.2.1 h0 (fun i a y B H q3=>by rw[Db];exact hT i a y B H q3);have hm:=I.mem _ (BR hD);have hv:tm.getD t' undef = .pointer (some ⟨b.1,b.2,none⟩):=by
  unfold fz at A;simp only at A;split at A
  ·rename_i b' ts' hb;cases A;rw[hD]at hb;cases hb;exact I.val _ _ hD
  ·rename_i h2 hb;cases A;obtain⟨b',ts',k1,k2⟩:=I.val _ _ hb;rw[hD]at k1;cases k1;exact k2
  ·cases A
 have Q:(results fn tm).run P w = .ok (nH [tm.getD t' undef]) w:=oM fn tm w (by rw[F2];simp[List.mapM_cons,nG]);obtain⟨R,S,⟨c,e,f,Z,l2⟩,F3⟩:=hm;have F4:b.2+ts.length≤c.size:=by
  have F5:ts.length-1<ts.length:=by omega
  obtain⟨y,hy,_⟩:=l2 (ts.length-1) ts[ts.length-1] (BW F5);rcases BY (b.2+(ts.length-1)) c.size with g|g
  ·omega
  ·rw[CM g]at hy;cases hy
 have o:∀(i:Nat)(row:List DT),([ts.map T.holeF]:List (List DT))[i]?=some row→i=0∧row=ts.map T.holeF:=by
  intro i row h;cases i with
  |zero=>simp at h;exact⟨rfl,h.symm⟩
  |succ i=>simp at h
 have N:Holds w (.s .own (mkD.ptr b) ts.length [ts.map T.holeF]):=by
  refine .s _ _ _ _ rfl rfl c e f Z (by simp[mkD]) (fun i row h=>by rw[(o i row h).2,Ci]) (fun i row j u J h2=>?_) fun i row j u J h2=>?_
  ·obtain⟨rfl,rfl⟩:=o i row J;rw[B6,BS]at h2;obtain⟨v,F,rfl⟩:=h2;obtain⟨y,y1,y2⟩:=l2 j v F;refine⟨y,by simpa[mkD]using y1,?_⟩;rcases m v with q|q
   ·rw[q];exact y2.one
   ·rw[q];exact y2
  ·obtain⟨rfl,rfl⟩:=o i row J;obtain⟨v,F,rfl⟩:=C u (BR h2);rcases m v with q|q
   ·rw[q];exact .any
   ·rw[q];exact R v F
 have U:OwnT w (.s .own (mkD.ptr b) ts.length [ts.map T.holeF]):=by
  obtain⟨lo,hi⟩:=f;refine .s _ _ _ rfl rfl c e lo hi Z (by simp[mkD]) (by simpa[mkD]using F4) (fun x J h2=>F3 c e lo hi Z x J (by simpa[mkD]using h2)) fun i row j u J h2=>?_
  obtain⟨rfl,rfl⟩:=o i row J;have hu:=BR h2;refine yj (n u hu) fun K=>?_
  obtain⟨v,F,rfl⟩:=C u hu;rcases m v with q|q
  ·rw[q]at K;cases K
  ·rw[q]at K ⊢;exact S v F K
 have F6:(ts.filter T.isFar).flatMap ownR=[]:=Ca.2 fun u hu=>li (CY.1 hu).2
 have F7:aJ ([(false,.s .own (mkD.ptr b) ts.length [ts.map T.holeF]:: .any::ts.filter T.isFar)]:bA)=ownBl (.box b ts):=by
  have J:(ts.map T.holeF).flatMap ownR=ts.flatMap ownR:=by rw[De];congr 1;funext u;exact xl
  simp only[aJ,ownBl,B9,Df,Cp,F6];simp only[ownR,T.isOwn,CI,bv,mkD];simp only[B9,Df,Cp,qC n];rw[J];simp
 have V:=qM (((aQ 0 ad).map fun p=>(ownBl (D[p.1]?.getD .any),p.1))++[(ownBl (.box b ts),t)]) D
  (by rw[Dh,Ct];exact F1) (fun x hx=>by
   rcases Cm.1 hx with hx|hx
   ·obtain⟨p,hp,rfl⟩:=B7.1 hx;have:=o3 p hp;exact⟨D[p.1],BW this,fun b=>by rw[BW this];exact Cz _⟩
   ·rw[B4]at hx;subst hx;exact⟨_,hD,fun b=>Cz _⟩)
 have L:∀x,(aJ (os++[(false,.s .own (mkD.ptr b) ts.length [ts.map T.holeF]:: .any::ts.filter T.isFar)])).count x+(ad.flatMap cf).count x≤az D x:=by intro x;have B:=V x;have H:=o4 x;rw[CZ,Ce]at B;rw[gr,Ce,F7];simp only[B9,Df,Cp]at B;omega
 refine⟨_,os,_,rfl,Q,o1,⟨.inr (.inr ⟨_,_,_,_,rfl,hv,B2.2 fun u hu=>(CY.1 hu).2,by rw[M];exact⟨c,e,f,Z,l2⟩⟩),?_,?_,?_,?_,?_⟩⟩
 ·intro r hr u hu;rcases Cm.1 hr with hr|hr
  ·obtain⟨s,B,H⟩:=o2 r hr;exact(H u hu).elim (fun e=>by subst e;exact KindR.fine rfl) fun q=>I.rootKind B q.1 (B2.1 (B2.1 F0 r hr) u hu)
  ·rw[B4]at hr;subst hr;simp only[Cq]at hu;rcases hu with rfl|rfl|hu
   ·exact .inl rfl
   ·exact KindR.fine rfl
   ·have hu:=(CY.1 hu).1;exact KindR.of (O u hu) (I.kind _ (BR hD) u hu)
 ·intro r hr u hu;rcases Cm.1 hr with hr|hr
  ·obtain⟨s,B,H⟩:=o2 r hr;exact(H u hu).elim (fun e=>by subst e;exact .any) fun q=>(I.mem s B).1 u q.2
  ·rw[B4]at hr;subst hr;simp only[Cq]at hu;rcases hu with rfl|rfl|hu
   ·exact N
   ·exact .any
   ·exact R u (CY.1 hu).1
 ·intro r hr u hu K;rcases Cm.1 hr with hr|hr
  ·obtain⟨s,B,H⟩:=o2 r hr;exact(H u hu).elim (fun e=>by subst e;cases K) fun q=>(I.mem s B).2.1 u q.1 K
  ·rw[B4]at hr;subst hr;simp only[Cq]at hu;rcases hu with rfl|rfl|hu
   ·exact U
   ·cases K
   ·exact S u (CY.1 hu).1 K
 ·intro x;have B:=L x;have H:=I.once x;omega
 ·intro x hx;have B:=L x;have q3:0<az D x:=by have:=B8.2 hx;omega
  exact I.bnd x (by omega)
theorem Inv.ends {P:Program}{tab:Tab}(ok:ax P tab){D:DSt}{tm:Array Value}{w0 w:World}{X:List Nat}{Y:Nat→Prop}(I:Inv ⟨w0,X,Y⟩ D [] tm w){ad:List DSl}{C:List Value}(G:ArgsOk w0 X Y ad C)
  (Q:∀(i:Nat)(a:DSl)(y:Value),ad[i]?=some a→C[i]?=some y→(bi a).isSome=true→tm.getD i undef=y) {fn:Func} {all:bA}
  (e:mi mkD tab D (aQ 0 ad) fn.results.toList=some all):∃v od rd,all=od++rd∧(results fn tm).run P w = .ok v w∧OutsOk w ad C od∧RetOk w0 X Y w (ad.flatMap cf) od rd v:=by
 unfold mi at e;split at e
 ·rename_i r t H;rw[BT]at e;obtain⟨os,J,e⟩:=e;split at e
  case isFalse=>cases e
  rename_i hc;cases e;exact I.endPtr G Q H J hc.1 hc.2
 rw[BT]at e;obtain⟨os,J,e⟩:=e;rw[BT]at e;obtain⟨l,R,e⟩:=e;split at e
 case isFalse=>cases e
 rename_i hc;cases e;obtain⟨K,u,L⟩:=hc;obtain⟨W,M,Z,o4⟩:=qL I ad C 0 G.1 G.2.1 J (fun i a y d k F=>by rw[Db];exact Q i a y d k F);obtain⟨ys,S,g2,U⟩:=I.resL ok R;have f:∀x∈l,∃(i:Nat) (y:Value) (r:ResultVar),l[i]?=some x∧ys[i]?=some y∧sa P D tm w r x y:=by
  intro x hx;obtain⟨i,hi⟩:=BX hx;have A:i<ys.length:=by rw[S];exact bE hi
  obtain⟨r,hr⟩:=U i x ys[i] hi (BW A);exact⟨i,ys[i],r,hi,BW A,hr⟩
 have g:∀r∈l.map (fun r=>(r.1,r.2.1)),∃x∈l,r=(x.1,x.2.1):=fun r hr=>by obtain⟨x,hx,rfl⟩:=B7.1 hr;exact⟨x,hx,rfl⟩
 have z:aJ (l.map fun r=>(r.1,r.2.1))=l.flatMap fun r=>r.2.1.flatMap ownR:=by unfold aJ;rw[De]
 have B:=qM (((aQ 0 ad).map fun p=>(ownBl (D[p.1]?.getD .any),p.1))++(l.filter ownAny).map fun r=>(r.2.1.flatMap ownR,r.2.2)) D
  (by rw[Dh,Ct,Ct];exact L) (fun x hx=>by
   rcases Cm.1 hx with hx|hx
   ·obtain⟨p,n,rfl⟩:=B7.1 hx;have:=Z p n;exact⟨D[p.1],BW this,fun b=>by rw[BW this];exact Cz _⟩
   ·obtain⟨r,hr,rfl⟩:=B7.1 hx;obtain⟨i,y,N,_,_,c⟩:=f r (CY.1 hr).1;exact c.home)
 have o:∀b,(aJ (os++l.map fun r=>(r.1,r.2.1))).count b+(ad.flatMap cf).count b≤az D b:=by
  intro b;have d:=B b;have k:=o4 b;rw[CZ,Ce]at d;rw[gr,Ce,z,wu];have F:((l.filter ownAny).map fun r=>(r.2.1.flatMap ownR,r.2.2)).flatMap (·.1)=(l.filter ownAny).flatMap fun r=>r.2.1.flatMap ownR:=by rw[De]
  rw[F]at d;omega
 refine⟨_,os,_,rfl,oM fn tm w g2,W,⟨?_,?_,?_,?_,?_,?_⟩⟩
 ·have n:∀(i:Nat)(r:Bool×List DT)(y:Value),(l.map fun r=>(r.1,r.2.1))[i]?=some r→ys[i]?=some y→VPart r y:=by intro i r y hi hy;rw[B6,BS]at hi;obtain⟨x,hx,rfl⟩:=hi;obtain⟨N,c⟩:=U i x y hx hy;exact c.part
  match ys,l,S,n with
  |[y],[x],_,n=>exact .inl ⟨_,rfl,n 0 _ y rfl rfl⟩
  |[],[],_,n=>exact .inr (.inl ⟨by simp,⟨#[],rfl,rfl,fun i r v h=>by simp at h⟩⟩)
  |y::V::ys,x::x'::l,m,n =>refine .inr (.inl ⟨by simp,⟨(y::V::ys).toArray,rfl,by simp at m ⊢;omega,fun i r v hi hv=>n i r v hi hv⟩⟩)
  |[],x::l,m,_=>simp at m
  |y::ys,[],m,_=>simp at m
  |[y],x::x'::l,m,_=>simp at m
  |y::V::ys,[x],m,_=>simp at m
 ·intro r hr t j;rcases Cm.1 hr with hr|hr
  ·obtain⟨s,d,k⟩:=M r hr;exact(k t j).elim (fun e=>by subst e;exact KindR.fine rfl) fun q=>I.rootKind d q.1 (B2.1 (B2.1 K r hr) t j)
  ·obtain⟨x,hx,rfl⟩:=g r hr;exact I.resKindL R x hx t j (B2.1 (B2.1 u x hx) t j)
 ·intro r hr t j;rcases Cm.1 hr with hr|hr
  ·obtain⟨s,d,k⟩:=M r hr;exact(k t j).elim (fun e=>by subst e;exact .any) fun q=>(I.mem s d).1 t q.2
  ·obtain⟨x,hx,rfl⟩:=g r hr;obtain⟨i,y,N,_,_,c⟩:=f x hx;exact c.holds t j
 ·intro r hr t j O;rcases Cm.1 hr with hr|hr
  ·obtain⟨s,d,k⟩:=M r hr;exact(k t j).elim (fun e=>by subst e;cases O) fun q=>(I.mem s d).2.1 t q.1 O
  ·obtain⟨x,hx,rfl⟩:=g r hr;obtain⟨i,y,N,_,_,c⟩:=f x hx;exact c.own t j O
 ·intro b;have d:=o b;have k:=I.once b;omega
 ·intro b hb;have d:=o b;have F:0<az D b:=by have:=B8.2 hb;omega
  exact I.bnd b (by omega)
theorem tc {w w0:World}{X:List Nat}{Y:Nat→Prop}:∀(ad:List DSl)(c:List Value)(k:Nat),ad.length=c.length →
  (∀(i:Nat)(a:DSl)(y:Value),ad[i]?=some a→c[i]?=some y→AOk w0 X Y a y)→((aQ k ad).all fun p=>match p.2 with| .one=>true|_=>false)=true →
  OutsOk w ad c ((aQ k ad).map fun _=>(false,[.any]))∧ad.flatMap cf=[]
 |[],c,k,_,_,_=>by refine⟨?_,rfl⟩;cases c<;>exact rfl
 |a::as,[],k,d,_,_=>by simp at d
 |a::as,y::ys,k,d,g,hh=>by
  have h:=tc (w:=w) (w0:=w0) (X:=X) (Y:=Y) as ys (k+1) (by simpa using d) fun i j l m n=>g (i+1) j l (by simpa using m) (by simpa using n)
  unfold aQ at hh ⊢;cases b:bi a with
  |none =>
   rw[b]at hh;obtain⟨e,f⟩:=h hh;have hb:cf a=[]:=by cases a<;>first|rfl|cases b
   refine⟨?_,by rw[B9,hb,Co];exact f⟩;unfold OutsOk;rw[b];exact e
  |some q =>
   rw[b]at hh;simp only[List.all_cons,Cf]at hh;obtain⟨e,f⟩:=h hh.2;have o:q = .one:=by have:=hh.1;cases q<;>first|rfl|cases this
   subst o;obtain⟨u,rfl⟩:=o6 b;have r:VT u y:=(g 0 _ y rfl rfl).val [];refine⟨?_,by rw[B9];exact f⟩;unfold OutsOk;rw[b];exact⟨_,_,rfl,⟨⟨.any,rfl,r.one⟩,rfl⟩,e⟩
theorem Inv.endsV {P:Program}{tab:Tab}(ok:ax P tab){D:DSt}{tm:Array Value}{w0 w:World}{X:List Nat}{Y:Nat→Prop}(I:Inv ⟨w0,X,Y⟩ D [] tm w){ad:List DSl}{f:List Value}(k:ArgsOk w0 X Y ad f){fn:Func}{all:bA}
  (e:m8 mkD tab D (aQ 0 ad) fn.results.toList=some all):∃v od rd,all=od++rd∧(results fn tm).run P w = .ok v w∧OutsOk w ad f od∧RetOk w0 X Y w (ad.flatMap cf) od rd v:=by
 unfold m8 at e;split at e
 case isFalse=>cases e
 rename_i d;rw[BS]at e;obtain⟨r,m,rfl⟩:=e;obtain⟨v,od,rd,rfl,n,o,R⟩:=I.ends ok (ArgsOk.nil w0 X Y) (fun i a y h=>by simp at h) m;have:od=[]:=o;subst this;obtain⟨p,s⟩:=tc (w:=w) ad f 0 k.1 k.2.1 d;refine⟨v,_,rd,by rw[Co],n,p,?_⟩;rw[s];have hz:∀(l:List (Nat×HK)),aJ (l.map fun _=>((false,[T.any]):Bool×List DT))=[]:=by intro l;unfold aJ;rw[Ca];intro r hr;obtain⟨_,_,rfl⟩:=B7.1 hr;rfl
 have hr:∀b,(aJ ((aQ 0 ad).map (fun _=>((false,[T.any]):Bool×List DT))++rd)).count b=(aJ rd).count b:=by intro b;rw[gr,hz,Co]
 have g:∀r∈(aQ 0 ad).map (fun _=>((false,[T.any]):Bool×List DT))++rd,(∀t∈r.2,t = .any)∨r∈[]++rd:=by
  intro r hr;rcases Cm.1 hr with hr|hr
  ·obtain⟨_,_,rfl⟩:=B7.1 hr;exact .inl fun t c=>by simpa using c
  ·exact .inr (by simpa using hr)
 refine⟨R.val,fun r hr t c=>?_,fun r hr t c=>?_,fun r hr t c j=>?_,fun b=>?_,fun b hb=>?_⟩
 ·rcases g r hr with q|q
  ·rw[q t c];exact KindR.fine rfl
  ·exact R.kind r q t c
 ·rcases g r hr with q|q
  ·rw[q t c];exact .any
  ·exact R.holds r q t c
 ·rcases g r hr with q|q
  ·rw[q t c]at j;cases j
  ·exact R.own r q t c j
 ·rw[hr];have:=R.once b;rw[Co]at this;exact this
 ·refine R.new b ?_;rw[Co];exact B8.1 (by rw[←hr];exact B8.2 hb)
def yH (tab:Tab)(gv:Bool)(fn:Func)(hs:List (Nat×HK)):Exit→US→Option URes| .normal,D=>if gv=true then m8 mkU tab D hs fn.results.toList else mi mkU tab D hs fn.results.toList| .ret,D=>if gv=true then m8 mkU tab D hs fn.results.toList else mi mkU tab D hs fn.results.toList|_,_=>none
def vZ (as:List (Sl Unit Unit))(fn:Func):Bool:=Nat.ble as.length qK&&Nat.ble fn.ntmps qK
noncomputable def kK (tab:Tab)(fns:FuncId→Option Func)(hints:FuncId→ee)(orc:Sem1→Sem1):Nat→Sem1
 | 0=>fun _ _=>none
 |k+1=>fun f as =>
  match orc (kK tab fns hints orc k) f as with
  |some r=>some r
  |none =>
   match fns f with
   |some fn =>
    match fn.body with
    |some c=>if(vZ as fn&&(tab.gv.contains f ||yk ((aQ 0 as).map (·.1)) c))=true then cv tab fns (kK tab fns hints orc k) (hints f) k c (as++List.replicate (fn.ntmps-as.length) .any) (yH tab (tab.gv.contains f) fn (aQ 0 as))else none
    |none=>none
   |none=>none
theorem Inv.enter {w:World}{X:List Nat}{Y:Nat→Prop}{ad:List DSl}{d:List Value}(h:ArgsOk w X Y ad d)(n:Nat)(o:ad.length+n≤qK):Inv ⟨w,X,Y⟩ (ad++List.replicate n .any) [] (d.toArray++Array.replicate n undef) w:=by
 obtain⟨l,m,j⟩:=h;have c:∀s∈ad++List.replicate n (.any:DSl),s = .any∨∃(i:Nat) (y:Value),ad[i]?=some s∧d[i]?=some y∧AOk w X Y s y:=by
  intro s hs;rcases Cm.1 hs with hs|hs
  ·right;obtain⟨i,hi⟩:=BX hs;have a:i<d.length:=by rw[←l];exact bE hi
   exact⟨i,d[i],hi,BW a,m i s _ hi (BW a)⟩
  ·left;exact CN hs
 have f:∀b,az (ad++List.replicate n (.any:DSl)) b=(ad.flatMap ownBl).count b:=by
  intro b;unfold az;rw[CZ,Ce];have:(List.replicate n (.any:DSl)).flatMap ownBl=[]:=by rw[Ca];intro s hs;rw[CN hs];rfl
  rw[this];rfl
 refine⟨by simp[l],fun t s hs=>?_,fun s hs=>?_,fun s hs=>?_,fun p q=>(by cases q),fun b=>by rw[f,a6];exact j b,fun b hb=>?_,⟨rfl,rfl,rfl,Cz _,fun b _=>rfl⟩⟩
 ·rcases BY t ad.length with g|g
  ·rw[CA g]at hs;have a:t<d.length:=by omega
   have:=(m t s d[t] hs (BW a)).val (ad++List.replicate n .any);have e:(d.toArray++Array.replicate n undef).getD t undef=d[t]:=by rw[Cv,DB (by simpa using a)];simp[a]
   rw[e];exact this
  ·rw[Cy g]at hs;have:=BR hs;rw[CN this];trivial
 ·rcases c s hs with rfl|⟨i,y,_,_,h⟩
  ·exact⟨fun u k=>by simp[af]at k,fun u k=>by simp[rootsO]at k,trivial⟩
  ·exact h.mem
 ·rcases c s hs with rfl|⟨i,y,_,_,h⟩
  ·exact fun u k=>by simp[af]at k
  ·exact h.kind _ (by simpa using o)
 ·rw[f,a6,Nat.add_zero]at hb;obtain⟨s,hs,hb⟩:=B5.1 (B8.1 hb);rcases c s (Cm.2 (.inl hs))with rfl|⟨i,y,_,_,h⟩
  ·simp[ownBl]at hb
  ·have:=h.own b hb;exact⟨.inr this.1,this.2⟩
theorem oA:∀(ad:List DSl)(k i:Nat)(a:DSl),ad[i]?=some a→(bi a).isSome=true→k+i∈(aQ k ad).map (·.1)
 |[],k,i,a,h,_=>by simp at h
 |a::as,k,0,c,h,b=>by
  simp at h;subst h;unfold aQ;cases d:bi a with
  |none=>rw[d]at b;cases b
  |some q=>simp
 |a::as,k,i+1,c,h,b=>by
  have:=oA as (k+1) i c (by simpa using h) b;unfold aQ;rw[show k+(i+1)=k+1+i by omega];cases d:bi a with
  |none=>exact this
  |some q=>exact Dq _ this
theorem mw {P:Program}{tab:Tab}(ok:ax P tab){fns:FuncId→Option Func}(hf:dB P fns)(hints:FuncId→ee){orc:Sem1→Sem1}{B:Base}(q:∀C,CallsOk P B C→CallsOk P B (orc C)):∀k,CallsOk P B (kK tab fns hints orc k)
 | 0=>fun f as rs h=>by cases h
 |k+1=>fun f as rs h w X Y ad d S z p=>by
  simp only[kK]at h;split at h
  ·rename_i r Z;cases h;exact q _ (mw ok hf hints q k) f as _ Z w X Y ad d S z p
  ·split at h
   case h_2=>cases h
   rename_i fn A;split at h
   case h_2=>cases h
   rename_i c hc;split at h
   case isFalse=>cases h
   rename_i hfix;rw[Cf]at hfix;obtain⟨m,hfix⟩:=hfix;obtain⟨p1,p2,p3⟩:=hf f fn A;have hl:as.length=d.length:=by rw[←z,Ci];exact p.1
   have hh:aQ 0 as=aQ 0 ad:=by rw[←z,pM]
   have D:as++List.replicate (fn.ntmps-as.length) (.any:Sl Unit Unit)=erD (ad++List.replicate (fn.ntmps-d.length) .any):=by rw[hl, ←z];simp[erD,Sl.er]
   rw[D,hh]at h;rw[hh]at hfix;refine calls_of_wp p1 hc ?_;have I:=Inv.enter p (fn.ntmps-d.length) (by unfold vZ at m;rw[Cf,Nat.ble_eq,Nat.ble_eq]at m;have:=p.1;omega);have F:d.toArray.size=d.length:=by simp
   have hT:∀o∈kb c,∀(a:Act)(y:Value),(a.defers=[]∧(tab.gv.contains f=false→∀(i:Nat)(s:DSl)(v:Value),ad[i]?=some s→d[i]?=some v→(bi s).isSome=true→a.tmps.getD i undef=v)) →
     ((a.put o.dst y).defers=[]∧(tab.gv.contains f=false→∀(i:Nat)(s:DSl)(v:Value),ad[i]?=some s→d[i]?=some v→(bi s).isSome=true→(a.put o.dst y).tmps.getD i undef=v)):=by
    rintro o q a y ⟨t1,U⟩;refine⟨by unfold Act.put;split<;>exact t1,fun g i s v G u H=>?_⟩;rw[g,Bool.false_or]at hfix;cases hd:o.dst with
    |none=>exact U g i s v G u H
    |some t =>
     have hi:=oA ad 0 i s G H;rw[Db]at hi;have J:t≠i:=by
      rintro rfl;unfold yk at hfix;rw[Dy]at hfix;rcases hfix with hfix|hfix
      ·rw[List.isEmpty_iff]at hfix;rw[hfix]at hi;cases hi
      ·have:=B2.1 hfix o q;rw[hd]at this;simp only[Bool.not_eq_true',List.contains_eq_mem,Ed]at this;exact this hi
     show(a.tmps.setIfInBounds t y).getD i undef=v;rw[Cv,DQ J, ←Cv];exact U g i s v G u H
   have K:∀(i:Nat)(s:DSl)(v:Value),ad[i]?=some s→d[i]?=some v→(bi s).isSome=true→(d.toArray++Array.replicate (fn.ntmps-d.toArray.size) undef).getD i undef=v:=by intro i s v _ u _;have L:=bE u;rw[Cv,DB (by simpa using L)];simp[u]
   refine fd (T:=fun a=>a.defers=[]∧(tab.gv.contains f=false→∀(i:Nat)(s:DSl)(v:Value),ad[i]?=some s→d[i]?=some v→(bi s).isSome=true→a.tmps.getD i undef=v)) (r:=rs) ok hf ⟨mw ok hf hints q k,S⟩ c hT (fun e D' V w' l M j=>?_)
    (a:={ tmps:=d.toArray++Array.replicate (fn.ntmps-d.toArray.size) undef,defers:=[] }) (by rw[F];exact I) ⟨rfl,fun _=>K⟩ h
   have x:(if tab.gv.contains f=true then m8 mkU tab (erD D') (aQ 0 ad) fn.results.toList else mi mkU tab (erD D') (aQ 0 ad) fn.results.toList)=some rs→V.defers=[]∧∃v,(Go.results fn V.tmps).run P w' = .ok v w'∧∃W od rd,Ending.returned v = .returned W∧GrewH X w w'∧erR (od++rd)=rs∧OutsOk w' ad d od∧RetOk w X Y w' (ad.flatMap cf) od rd W:=by
    intro l;split at l
    ·rw[yY]at l;obtain⟨all,n,rfl⟩:=BS.1 l;obtain⟨v,od,rd,rfl,N,O,Q⟩:=j.endsV ok p n;exact⟨M.1,v,N,v,od,rd,rfl,⟨j.frame.os,j.frame.tape,j.frame.output,j.frame.size,fun b hb R=>j.frame.same b ⟨hb,R⟩⟩,rfl,O,Q⟩
    rename_i g;rw[Bool.not_eq_true]at g;rw[vh]at l;obtain⟨all,n,rfl⟩:=BS.1 l;obtain⟨v,od,rd,rfl,N,O,Q⟩:=j.ends ok p (M.2 g) n;exact⟨M.1,v,N,v,od,rd,rfl,⟨j.frame.os,j.frame.tape,j.frame.output,j.frame.size,fun b hb R=>j.frame.same b ⟨hb,R⟩⟩,rfl,O,Q⟩
   cases e with
   |normal=>exact x l
   |ret=>exact x l
   |_=>cases l
end Go.Proofs.Yticaelmbkfeeaaa.Am
