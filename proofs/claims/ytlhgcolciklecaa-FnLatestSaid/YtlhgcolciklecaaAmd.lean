/- An abstract machine over trees, and that its steps are sound, a part. Conditions: none. -/
import Derived.Test.YtlhgcolciklecaaAmb
import Derived.LoopN
namespace Go.Proofs.Ytlhgcolciklecaa.Am
open Go
set_option linter.unusedVariables false
set_option linter.unusedSimpArgs false
section
variable  {δ β : Type}
def T.isV:T δ→Bool| .v _=>true|_=>false
def dn:Sl δ β→Option (List (T δ))| .one u=>if u.isOwn=true then some [u]else none| .agg ts=>if ts.all (fun t=>t.isOwn ||t.isV)=true then some ts else none|_=>none
def dR:Sl δ β→Option (T δ)| .one (.v x)=>some (.v x)|_=>none
def cd (rd:Nat→Option (Sl δ β))(pl:List (Nat×Nat)):List (Nat×Operand)→List (T δ)→Option (List (T δ))
 |[],ts=>some ts
 |(i,x)::r,ts =>
  match x with
  | .tmp q =>
   match pl[i]?,(rd q).bind dR with
   |some (off,size),some t=>if 1=size∧off+1≤ts.length then cd rd pl r (ao ts off [t])else none
   |_,_=>none
  |_=>none
def me (rs:List (Bool×List (T δ))):Bool:=rs.all (fun r=>r.2.all fun t=>t.isOwn ||t.isV) && !(rs.all fun r=>r.2.all T.flat)
def fb:Sl δ β→Option (List (Bool×List (T δ)))| .tup rs=>if me rs=true then some rs else none|_=>none
def takeSlot (o:Oper):Option Nat :=
 match o.op with
 | .buildSlice _ _ a=>match a.toList with|[(0,.tmp u)]=>some u|_=>none
 | .build _ a=>match a.toList with|(_,.tmp u)::_=>some u|_=>none
 | .move x=>match x with| .tmp u=>some u|_=>none
 |_=>none
def kg (M:Mk δ β)(F:gq δ β)(tab:Tab)(rd:Nat→Option (Sl δ β))(o:Oper):Option (Sl δ β):=
 match o.op with
 | .buildSlice t len a =>
  match tab.ti t,a.toList with
  |some ⟨_,_,_,.slice e⟩,[(0,.tmp u)]=>
   match tab.ti e,(rd u).bind dn with
   |some b,some us=>if len=1∧b.size≠0∧b.zero.length=b.size∧b.size≤2 ^ 24∧us.length=b.size then some (.one (.s .own (F.row 1) b.size [us]))else none
   |_,_=>none
  |_,_=>none
 | .build t a =>
  match tab.ti t,tab.pl t,a.toList with
  |some ti,some pl,(i,.tmp u)::r =>
   match pl[i]?,(rd u).bind dn with
   |some (off,size),some us =>if us.length=size∧off+us.length≤(ti.zero.map (T.inj M.nil)).length then(cd rd pl r (ao (ti.zero.map (T.inj M.nil)) off us)).map fun ts=>.agg ts else none
   |_,_=>none
  |_,_,_=>none
 | .move x=>match x with| .tmp u=>((rd u).bind fb).map .tup|_=>none
 |_=>none
theorem yB {x:Sl δ β}{t:T δ}(h:dR x=some t):∃y,x = .one (.v y)∧t = .v y:=by
 unfold dR at h;split at h
 ·cases h;exact⟨_,rfl,rfl⟩
 ·cases h
theorem oW {D:St δ β}{pl:List (Nat×Nat)}:∀(r:List (Nat×Operand)){ts us:List (T δ)},cd (fun q=>D[q]?) pl r ts=some us→r.filter (fun p=>d4 D p.2)=[]
 |[],ts,us,_=>rfl
 |(i,x)::r,ts,us,h=>by
  simp only[cd]at h;split at h
  ·rename_i q;split at h
   ·rename_i off size t f b;rw[Eh]at b;obtain⟨y,c,a⟩:=b;split at h
    ·have d:=oW r h;have e:d4 D (.tmp q)=false:=by
      simp only[d4,c];unfold dR at a;split at a
      ·rfl
      ·cases a
     rw[Fx,Eu (by rw[e];exact E5),d]
    ·cases h
   ·cases h
  ·cases h
theorem lc {rd a:Nat→Option (Sl δ β)}(b:∀q x,rd q=some x→(dR x).isSome=true→a q=some x){pl:List (Nat×Nat)}:∀(r:List (Nat×Operand)){ts us:List (T δ)},
  cd rd pl r ts=some us→cd a pl r ts=some us
 |[],ts,us,h=>h
 |(i,x)::r,ts,us,h=>by
  simp only[cd]at h ⊢;split at h
  ·rename_i q;split at h
   ·rename_i off size t e c;rw[Eh]at c;obtain⟨y,f,d⟩:=c;have g:=b q y f (by rw[d];rfl);simp only[e,g,Eg,d];split at h
    ·rename_i hc;rw[Ej hc];exact lc b r h
    ·cases h
   ·cases h
  ·cases h
theorem yP {M:Mk δ β}{F:gq δ β}{tab:Tab}{rd a:Nat→Option (Sl δ β)}(m:∀q x,rd q=some x→(dR x).isSome=true→a q=some x)(l:∀q x,rd q=some x→(dn x).isSome=true→a q=some x)(n:∀q x,rd q=some x→(fb x).isSome=true→a q=some x){o:Oper}{s:Sl δ β}
  (h:kg M F tab rd o=some s):kg M F tab a o=some s:=by
 unfold kg at h ⊢;split at h
 ·split at h
  ·rename_i d f;split at h
   ·rename_i v us g b;rw[Eh]at b;obtain⟨y,e,c⟩:=b;have j:=l _ y e (by rw[c];rfl);simp only[d,f,g,j,Eg,c];exact h
   ·cases h
  ·cases h
 ·split at h
  ·rename_i ti pl i u r d k f;split at h
   ·rename_i off size us hi b;rw[Eh]at b;obtain⟨y,e,c⟩:=b;have j:=l _ y e (by rw[c];rfl);simp only[d,k,f,hi,j,Eg,c];split at h
    ·rename_i hc;rw[Ej hc];rw[Ei]at h ⊢;obtain⟨ts,p,t⟩:=h;exact⟨ts,lc m r p,t⟩
    ·cases h
   ·cases h
  ·cases h
 ·split at h
  ·rename_i u;rw[Ei]at h;obtain⟨rs,b,rfl⟩:=h;rw[Eh]at b;obtain⟨y,e,c⟩:=b;rw[n _ y e (by rw[c];rfl),Eg,c];rfl
  ·cases h
 ·cases h
theorem oN (u:Nat)(D:St δ β):(aB u D).length=D.length:=by simp[aB,St.dead]
theorem tn {D:St δ β}{u q:Nat}{x:Value}(h:D[q]?=some (.one (.v x)))(a:q≠u):(aB u D)[q]?=some (.one (.v x)):=by unfold aB;rw[Es (fun e=>a e.symm)];simp only[St.dead,Et,h,Ee];rfl
theorem vp {M:Mk δ β}{D:St δ β}{q:Nat}{x:Value}(h:D[q]?=some (.one (.v x))):cellsCopy M D (.tmp q)=some (false,[.v x]):=by simp only[cellsCopy,opd,kF,h]
theorem kC {M:Mk δ β}{D:St δ β}{u:Nat}(b:∀x,D[u]?≠some (.one (.v x))){pl:List (Nat×Nat)}:∀(r:List (Nat×Operand)){ts us:List (T δ)},cd (fun q=>D[q]?) pl r ts=some us→bm M (aB u D) pl r ts=some us
 |[],ts,us,h=>h
 |(i,x)::r,ts,us,h=>by
  simp only[cd]at h;simp only[bm];split at h
  ·rename_i q;split at h
   ·rename_i off size t f c;rw[Eh]at c;obtain⟨y,d,g⟩:=c;obtain⟨v,rfl,rfl⟩:=yB g;have a:q≠u:=fun e=>b v (e ▸ d)
    rw[f,vp (tn d a)];simp only;split at h
    ·rename_i hc;rw[Ej (by simpa using hc)];exact kC b r h
    ·cases h
   ·cases h
  ·cases h
theorem o8 {M:Mk δ β}{D:St δ β}{u:Nat}{x:Sl δ β}{us:List (T δ)}(h:D[u]?=some x)(a:dn x=some us):(∃g,cellsTake M D (.tmp u)=some (g,us,aB u D))∧us.all (fun t=>t.isOwn ||t.flat)=true∧∀y,D[u]?≠some (.one (.v y)):=by
 unfold dn at a;split at a
 ·rename_i t;split at a
  ·rename_i c;cases a;refine⟨⟨false,?_⟩,by simp[c],fun y e=>?_⟩
   ·simp only[cellsTake,h];rw[Ej c]
   ·rw[h]at e;cases e;cases c
  ·cases a
 ·rename_i ts;split at a
  ·rename_i b;cases a;refine⟨⟨true,?_⟩,?_,fun y e=>?_⟩
   ·simp only[cellsTake,h];rw[Ej];rw[Eo]at b ⊢;intro t f;have:=b t f;cases t with
    |v x=>rfl
    |any=>rfl
    |s k d z r=>cases k<;>first|rfl|(simp[T.isOwn,T.isV]at this)
   ·rw[Eo]at b ⊢;intro t f;have:=b t f;cases t with
    |v x=>rfl
    |any=>simp[T.isOwn,T.isV]at this
    |s k d z r=>cases k<;>first|rfl|(simp[T.isOwn,T.isV]at this)
   ·rw[h]at e;cases e
  ·cases a
 ·cases a
theorem yR {x:Sl δ β}{rs:List (Bool×List (T δ))}(h:fb x=some rs):x = .tup rs∧(rs.all fun r=>r.2.all T.noLent)=true∧(rs.all fun r=>r.2.all T.flat)=false:=by
 unfold fb at h;split at h
 ·rename_i b;split at h
  ·rename_i a;cases h;unfold me at a;rw[EF]at a;refine⟨rfl,?_,by simpa using a.2⟩;rw[Eo];intro r c;rw[Eo];intro t e;have:=Eo.1 (Eo.1 a.1 r c) t e;cases t with
   |v x=>rfl
   |any=>rfl
   |s k d z r=>cases k<;>first|rfl|(simp[T.isOwn,T.isV]at this)
  ·cases h
 ·cases h
theorem sl {M:Mk δ β}{F:gq δ β}{tab:Tab}{D:St δ β}{o:Oper}{t u:Nat}(hd:o.dst=some t)(a:takeSlot o=some u)(p:t<D.length){s:Sl δ β}(A:aB u D=D.set u .any)(h:kg M F tab (fun q=>D[q]?) o=some s):
  bQ M F tab D o true=some (aE (aB u D) (some t) s):=by
 unfold kg at h;unfold takeSlot at a;unfold bQ;split at h
 ·rename_i B len d b;simp only[b]at a ⊢;split at h
  ·rename_i sz C K e u' f j;simp only[j]at a;cases a;split at h
   ·rename_i L us v c;rw[Eh]at c;obtain⟨x,k,l⟩:=c;obtain⟨⟨g,m⟩,n,_⟩:=o8 (M:=M) k l;split at h
    ·rename_i hc;cases h;rw[Ej trivial];simp only[ey,f,hd,j,v,m];rw[Ej ⟨hc.1,by rw[oN];exact p,hc.2.1,hc.2.2.1,hc.2.2.2.1,hc.2.2.2.2,n⟩]
    ·cases h
   ·cases h
  ·cases h
 ·rename_i B d b;simp only[b]at a ⊢;split at h
  ·rename_i ti pl i u' r f w j;simp only[j]at a;cases a;split at h
   ·rename_i off size us hi c;rw[Eh]at c;obtain⟨x,k,l⟩:=c;obtain⟨⟨g,m⟩,n,G⟩:=o8 (M:=M) k l;split at h
    ·rename_i hc;rw[Ei]at h;obtain⟨ts,z,rfl⟩:=h;rw[Ej trivial];refine sN (by unfold oz;rw[j];have:=oW r z;rw[Fx];split<;>simp[this]) ?_;simp only[iK,f,w,j,hd,hi,m];rw[Ej ⟨hc.1,hc.2,by rw[oN];exact p⟩,kC G r z];rfl
    ·cases h
   ·cases h
  ·cases h
 ·rename_i x b;simp only[b]at a ⊢;split at h
  ·rename_i u';cases a;rw[Ei]at h;obtain⟨rs,a,rfl⟩:=h;rw[Eh]at a;obtain⟨y,k,l⟩:=a;obtain⟨rfl,m,n⟩:=yR l;have H:kO tab o.type (.tmp u)=none:=rfl;have I:ef D (.tmp u)=none:=by simp only[ef,k];rw[Eu (fun q=>by rw[n]at q;cases q.1)]
   have J:gH D (.tmp u) o.dst=some (aE (D.set u .any) (some t) (.tup rs)):=by simp only[gH,hd,k];rw[Ej ⟨p,m⟩]
   simp only[H,I,J,EV];rw[A]
  ·cases h
 ·cases h
end
theorem xU (t:DT):t.er.isV=t.isV:=by
 cases t with
 |v x=>rfl
 |any=>rfl
 |s k d z r=>simp[aq,T.isV]
theorem x9 (x:DSl):dn x.er=(dn x).map erL:=by
 cases x with
 |one u =>simp only[Sl.er,dn,bP];split<;>rfl
 |agg ts =>
  simp only[Sl.er,dn];have:(erL ts).all (fun t=>t.isOwn ||t.isV)=ts.all (fun t=>t.isOwn ||t.isV):=by show(ts.map T.er).all _=_;rw[Fc];congr 1;funext t;show(t.er.isOwn ||t.er.isV)=_;rw[bP,xU]
  rw[this];split<;>rfl
 |_=>rfl
theorem ya (x:DSl):fb x.er=(fb x).map (List.map fun r=>(r.1,erL r.2)):=by
 cases x with
 |tup rs =>
  simp only[Sl.er,fb];have a:∀l:List DT,(erL l).all (fun t=>t.isOwn ||t.isV)=l.all (fun t=>t.isOwn ||t.isV):=fun l=>by show(l.map T.er).all _=_;rw[Fc];congr 1;funext t;show(t.er.isOwn ||t.er.isV)=_;rw[bP,xU]
  have b:∀l:List DT,(erL l).all T.flat=l.all T.flat:=fun l=>by show(l.map T.er).all _=_;rw[Fc];congr 1;funext t;exact lR t
  have:me (rs.map fun r=>(r.1,erL r.2))=me rs:=by
   unfold me;rw[Fc,Fc];congr 1
   ·congr 1;funext r;exact a r.2
   ·congr 2;funext r;exact b r.2
  rw[this];split<;>rfl
 |_=>rfl
theorem x5 (x:DSl):dR x.er=(dR x).map T.er:=by
 cases x with
 |one u =>
  cases u with
  |v y=>rfl
  |any=>rfl
  |s k d z r=>simp[Sl.er,aq,dR]
 |_=>rfl
theorem mQ (D:DSt)(pl:List (Nat×Nat)):∀(r:List (Nat×Operand))(ts:List DT),cd (fun q=>(erD D)[q]?) pl r (erL ts)=(cd (fun q=>D[q]?) pl r ts).map erL
 |[],ts=>rfl
 |(i,x)::r,ts=>by
  simp only[cd];split
  ·rename_i q;have e:((erD D)[q]?).bind dR=((D[q]?).bind dR).map T.er:=by
    rw[a8];cases D[q]? with
    |none=>rfl
    |some y=>simp only[Ee,Eg,x5]
   rw[e];cases pl[i]? with
   |none=>rfl
   |some os =>
    obtain⟨off,size⟩:=os;cases(D[q]?).bind dR with
    |none=>rfl
    |some t =>
     simp only[Ee,EJ];split
     ·have a:ao (erL ts) off [t.er]=erL (ao ts off [t]):=(eh ts off [t]).symm;rw[a];exact mQ D pl r _
     ·rfl
  ·rfl
theorem z8 (w:World)(tab:Tab)(D:DSt)(o:Oper):kg mkU frU tab (fun q=>(erD D)[q]?) o=(kg mkD (frD w) tab (fun q=>D[q]?) o).map Sl.er:=by
 have b:∀u,((erD D)[u]?).bind dn=((D[u]?).bind dn).map erL:=fun u=>by
  rw[a8];cases D[u]? with
  |none=>rfl
  |some y=>simp only[Ee,Eg,x9]
 unfold kg;split
 ·split
  ·rename_i sz c j e u a d;simp only[b];cases tab.ti e with
   |none=>rfl
   |some k =>
    cases(D[u]?).bind dn with
    |none=>rfl
    |some us =>
     simp only[Ee,EJ];split
     ·simp only[Ee,Sl.er,aq,EB,E6]
     ·rfl
  ·rfl
 ·split
  ·rename_i ti pl i u r a f d;simp only[b];cases pl[i]? with
   |none=>rfl
   |some os =>
    obtain⟨off,size⟩:=os;cases(D[u]?).bind dn with
    |none=>rfl
    |some us =>
     simp only[Ee,EJ];split
     ·have g:ao (ti.zero.map (T.inj mkU.nil)) off (erL us)=erL (ao (ti.zero.map (T.inj mkD.nil)) off us):=by rw[ii,eh]
      rw[g,mQ];cases cd (fun q=>D[q]?) pl r (ao (ti.zero.map (T.inj mkD.nil)) off us)with
      |none=>rfl
      |some ts=>simp only[Ee,Sl.er]
     ·rfl
  ·rfl
 ·split
  ·rename_i u h;show(((erD D)[u]?).bind fb).map Sl.tup=(((D[u]?).bind fb).map Sl.tup).map Sl.er;rw[a8];cases D[u]? with
   |none=>rfl
   |some y =>
    simp only[Ee,Eg,ya];cases fb y with
    |none=>rfl
    |some rs=>rfl
  ·rfl
 ·rfl
theorem ls {p:Nat→Nat→Bool}{t:DT}(h:((t.dead p).isOwn ||(t.dead p).isV)=true):t.dead p=t:=by
 cases t with
 |v x=>rfl
 |any=>rfl
 |s k d z r =>
  cases k with
  |own=>rfl
  |far=>rfl
  |lent b c e =>
   simp only[T.dead]at h ⊢;split
   ·rename_i a;rw[Ej a]at h;simp[T.isOwn,T.isV]at h
   ·rfl
theorem tL {D:DSt}{a q:Nat}{x:DSl}(h:(kill1 D a)[q]?=some x)(hx:(dn x).isSome=true∨(dR x).isSome=true∨(fb x).isSome=true):D[q]?=some x:=by
 by_cases e:a<D.length
 ·rw[iC D a q e]at h;split at h
  ·cases h;rcases hx with hx|hx|hx<;>cases hx
  ·rw[Ei]at h;obtain⟨y,j,m⟩:=h;rw[j];congr 1;subst m;cases y with
   |any=>rfl
   |one u =>
    simp only[Sl.clean,Sl.dead,Sl.gone]at hx ⊢;rw[ls];rcases hx with hx|hx|hx
    ·simp only[dn]at hx;split at hx
     ·rename_i n;simp[n]
     ·cases hx
    ·unfold dR at hx;split at hx
     ·rename_i v w;cases o:(u.dead (atH a))<;>simp_all[T.isV]
     ·cases hx
    ·cases hx
   |agg ts =>
    simp only[Sl.clean,Sl.dead,Sl.gone]at hx ⊢;rcases hx with hx|hx|hx
    ·simp only[dn]at hx;split at hx
     ·rename_i c;rw[Eo]at c;have:=EM (f:=T.dead (atH a)) (g:=id) (l:=ts) fun t d=>ls (c _ (FA d))
      rw[F9]at this;rw[this]
     ·cases hx
    ·cases hx
    ·cases hx
   |box b ts=>simp only[Sl.clean,Sl.dead,Sl.gone]at hx;rcases hx with hx|hx|hx<;>cases hx
   |al=>simp only[Sl.clean,Sl.dead]at hx ⊢;split at hx<;>(rcases hx with hx|hx|hx<;>cases hx)
   |pe=>simp only[Sl.clean,Sl.dead]at hx ⊢;split at hx<;>(rcases hx with hx|hx|hx<;>cases hx)
   |pb=>simp only[Sl.clean,Sl.dead,Sl.gone]at hx ⊢;split at hx<;>(rcases hx with hx|hx|hx<;>cases hx)
   |clo=>simp only[Sl.clean,Sl.dead,Sl.gone]at hx ⊢;split at hx<;>(rcases hx with hx|hx|hx<;>cases hx)
   |im k b ts off =>
    cases k with
    |lent=>simp only[Sl.clean,Sl.dead]at hx ⊢;split at hx<;>(rcases hx with hx|hx|hx<;>cases hx)
    |_=>rcases hx with hx|hx|hx<;>cases hx
   |fni f caps=>rcases hx with hx|hx|hx<;>cases hx
   |tup rs =>
    simp only[Sl.clean,Sl.dead,Sl.gone]at hx ⊢;rcases hx with hx|hx|hx
    ·cases hx
    ·cases hx
    ·simp only[fb]at hx;split at hx
     ·rename_i c;unfold me at c;rw[EF]at c;have:=EM (f:=fun r:Bool×List DT=>(r.1,r.2.map (T.dead (atH a)))) (g:=id) (l:=rs) fun r p=>by
       have s:=Eo.1 c.1 (r.1,r.2.map (T.dead (atH a))) (FA p);have i:=EM (f:=T.dead (atH a)) (g:=id) (l:=r.2) fun t d=>ls (Eo.1 s _ (FA d))
       rw[F9]at i;show(r.1,_)=r;rw[i]
      rw[F9]at this;rw[this]
     ·cases hx
 ·unfold kill1 at h;rw[Eu e]at h;exact h
theorem gz:∀(l:List Nat){D:DSt}{q:Nat}{x:DSl},(killAll l D)[q]?=some x→(dn x).isSome=true∨(dR x).isSome=true∨(fb x).isSome=true→D[q]?=some x
 |[],D,q,x,h,_=>h
 |a::l,D,q,x,h,b=>by simp only[killAll,Fg]at h;exact tL (gz l h b) b
def T.lentTo {δ:Type}(t:Nat):T δ→Bool| .s (.lent h _ _) _ _ _=>h==t|_=>false
def ce {δ β:Type}(t:Nat):Sl δ β→Bool| .al h _ _ _ _=>h==t| .pe h _ _ _ _=>h==t| .pb h _=>h==t| .clo _ hs=>hs.contains t| .im (.lent h _ _) _ _ _=>h==t| .one u=>u.lentTo t| .agg ts=>ts.any (T.lentTo t)| .box _ ts=>ts.any (T.lentTo t)| .tup rs=>rs.any fun r=>r.2.any (T.lentTo t)|_=>false
theorem AM {t:Nat}{s:DSl}(h:bz t s):ce t s.er=true:=by
 have g:∀(ts:List DT),(∃u∈ts,∃c e d z r,u = .s (.lent t c e) d z r)→(erL ts).any (T.lentTo t)=true:=by rintro ts ⟨u,j,c,e,d,z,r,rfl⟩;rw[Fw];exact⟨_,FA j,by simp[aq,T.lentTo]⟩
 cases s with
 |any=>cases h
 |one u=>obtain⟨c,e,d,z,r,rfl⟩:=h;simp[Sl.er,aq,ce,T.lentTo]
 |agg ts=>exact g ts h
 |box b ts=>exact g ts h
 |al a c st lo len=>simp only[bz]at h;subst h;simp[Sl.er,ce]
 |pe a c st i off=>simp only[bz]at h;subst h;simp[Sl.er,ce]
 |pb a off=>simp only[bz]at h;subst h;simp[Sl.er,ce]
 |im k b ts off =>
  cases k with
  |lent a c e=>simp only[bz]at h;subst h;simp[Sl.er,ce]
  |_=>cases h
 |fni f caps=>cases h
 |clo f hs =>have a:t∈hs:=h;simp[Sl.er,ce,a]
 |tup rs =>obtain⟨r,l,j⟩:=h;simp only[Sl.er,ce];rw[Fw];exact⟨_,FA l,g r.2 j⟩
theorem tX {t:Nat}{s:DSl}(h:ce t s.er=false):¬bz t s:=fun q=>by rw[AM q]at h;cases h
theorem nB {D:DSt}{u:Nat}(b:∀s∈D,¬bz u s):aB u D=D.set u .any:=by
 have:(St.dead (atH u) (qH u) D).map (Sl.gone u)=D:=by
  simp only[St.dead,ES]
  conv=>rhs;rw[←F9 D]
  exact EM fun s' a=>lq (b s' a)
 unfold aB;rw[this]
theorem Inv.stepT {P:Program}{tab:Tab}(ok:aK P tab){cx:Cx}{D:DSt}{a:Act}{w:World}(I:Inv cx D [] a.tmps w){l:List Nat}{o:Oper}{t u:Nat}(hd:o.dst=some t)(k:D[t]?=some .any)(v:Am.takeSlot o=some u)
  (z:∀s∈erD D,ce u s=false) {s:Sl Unit Unit} (e:kg mkU frU tab (fun q=>(Am.killAll l (erD D))[q]?) o=some s) (hs:ce t s=false) {K:Act→World→Prop} {Q:Exit→Act→World→Prop}
  (A:∀D' m w',erD D'=((erD D).set u .any).set t s→(∃y,m=a.put o.dst y)→Inv cx D' [] m.tmps w'→K m w'):o.wp P a w K Q:=by
 have n:t<D.length:=by
  rcases Em t D.length with g|g
  ·exact g
  ·rw[Ek g]at k;cases k
 rw[←fi,z8 w]at e;obtain⟨B,C,rfl⟩:=Ei.1 e;have F:kg mkD (frD w) tab (fun q=>D[q]?) o=some B:=yP (fun q x c d=>gz l c (.inr (.inl d))) (fun q x c d=>gz l c (.inl d)) (fun q x c d=>gz l c (.inr (.inr d))) C;have f:∀s∈D,¬bz u s:=fun s hs=>tX (z s.er (FA hs))
 have p:∀s∈D,¬bz t s:=fun s' b=>by obtain⟨i,hi⟩:=En b;exact I.any_refs k (I.val i s' hi) (I.kind s' b)
 have r:=sl hd v n (nB f) F;rw[nB f,gR (fun s' b=>by
  rcases Fd b with h|rfl
  ·exact p s' h
  ·exact fun h=>h) (tX hs)]at r
 obtain⟨G,w',c,d⟩:=qr ok I r;unfold Oper.wp;rw[c];cases d with
 |value y h=>exact A _ _ _ (by rw[cN,cN];rfl) ⟨_,rfl⟩ h
 |skip j h=>rw[hd]at j;cases j
def tko (tk:Nat→Bool)(ops:Array Oper)(j:Nat):Option Nat:=if tk j=true then(ops[j]?).bind fun o=>if o.guard.isNone=true then takeSlot o else none else none
def dz (tk:Nat→Bool)(ops:Array Oper)(m:Nat):List Nat:=(List.range m).filterMap (tko tk ops)
def gG (tk:Nat→Bool)(ops:Array Oper)(m j:Nat):List Nat:=(List.range m).filterMap fun k=>if k=j then none else tko tk ops k
def ek (tk:Nat→Bool)(ops:Array Oper)(m:Nat)(anc:List (List Nat))(j:Nat):List Nat :=
 (List.range m).filterMap fun i=>match(ops[i]?).bind (·.dst)with
  |some t=>if((anc.getD j []).contains i && !((gG tk ops m j).contains t))=true then none else some t
  |none=>none
def sr (tk:Nat→Bool)(ops:Array Oper)(m:Nat)(anc:List (List Nat)):Bool :=
 decide (m≤ops.size) &&
 (List.range ops.size).all (fun j=>(aQ ops j).all fun i=>decide (i<j)) &&
 (List.range m).all (fun j=>((ops[j]?).bind (·.dst)).isSome)&&decide ((bN ops m).Nodup) &&
 (List.range ops.size).all (fun j=>(anc.getD j []).all fun i=>(aQ ops j).contains i ||(aQ ops j).any fun k=>(anc.getD k []).contains i) &&
 (List.range ops.size).all (fun j=>decide (j<m)||(List.range j).all fun i=>(aQ ops j).contains i ||(aQ ops j).any fun k=>(anc.getD k []).contains i) &&
 (List.range m).all (fun k=>match tko tk ops k with
  |some u=>(List.range m).any (fun i=>(anc.getD k []).contains i&&decide ((ops[i]?).bind (·.dst)=some u)) && !((gG tk ops m k).contains u)
  |none=>true)
def evM (tab:Tab)(fns:FuncId→Option Func)(C:Sem1)(tk:Nat→Bool)(ops:Array Oper)(m:Nat)(anc:List (List Nat))(j:Nat)(U:US):Option (Sl Unit Unit):=
 match ops[j]? with
 |some o =>
  match o.dst with
  |some t =>
   (match tko tk ops j with
    |none=>tq ops (killAll (ek tk ops m anc j) U) o (stepV tab fns C (killAll (ek tk ops m anc j) U) o)
    |some _=>kg mkU frU tab (fun q=>(killAll (ek tk ops m anc j) U)[q]?) o).bind fun s=>if(t::dz tk ops m).all (fun v => !ce v s)=true then some s else none
  |none=>none
 |none=>none
def ik (tk:Nat→Bool)(ops:Array Oper)(j:Nat)(U:US):US:=match tko tk ops j with|none=>U|some u=>U.set u .any
def stepM (tab:Tab)(fns:FuncId→Option Func)(C:Sem1)(tk:Nat→Bool)(ops:Array Oper)(m:Nat)(anc:List (List Nat))(U:US)(j:Nat):Option US :=
 match(ops[j]?).bind (·.dst)with
 |some t =>
  match U[t]? with
  |some .any=>(evM tab fns C tk ops m anc j U).map fun s=>(ik tk ops j U).set t s
  |_=>none
 |none=>none
def gU (tab:Tab)(fns:FuncId→Option Func)(C:Sem1)(tk:Nat→Bool)(ops:Array Oper)(m:Nat)(anc:List (List Nat)):Nat→Nat→US→Option US| 0,_,U=>some U|n+1,j,U=>(stepM tab fns C tk ops m anc U j).bind (gU tab fns C tk ops m anc n (j+1))
def runD (tab:Tab)(fns:FuncId→Option Func)(C:Sem1)(tk:Nat→Bool)(ops:Array Oper)(m:Nat)(anc:List (List Nat))(D:US):Option US :=if sr tk ops m anc&&(bN ops m).all (fun t=>decide (t<D.length))&&(killAll (bN ops m) D).all (fun s=>(dz tk ops m).all fun u => !ce u s)then (gU tab fns C tk ops m anc m 0 (killAll (bN ops m) D)).bind (runOps tab fns C tk ops (ops.toList.drop m) m)else none
theorem zH {tk:Nat→Bool}{ops:Array Oper}{j u:Nat}{o:Oper}(a:ops[j]?=some o)(h:tko tk ops j=some u):takeSlot o=some u∧o.guard=none:=by
 unfold tko at h;split at h
 ·rw[a,Eg]at h;split at h
  ·rename_i b;exact⟨h,GD.1 b⟩
  ·cases h
 ·cases h
theorem Inv.stepM {P:Program}{tab:Tab}(ok:aK P tab){fns:FuncId→Option Func}(hf:dA P fns){B:Base}{C:Sem1}{cx:Cx}(V:da P B C cx){D:DSt}{a:Act}{w:World}(I:Inv cx D [] a.tmps w)
  {tk:Nat→Bool} {ops:Array Oper} {m:Nat} {anc:List (List Nat)} {j:Nat} {U:US} (F:j<m) (W:∀u∈dz tk ops m,∀s∈erD D,ce u s=false) (e:Am.stepM tab fns C tk ops m anc (erD D) j=some U) {K:Act→World→Prop} {Q:Exit→Act→World→Prop}
  (G:∀D' n w',erD D'=U→(∃o y,ops[j]?=some o∧n=a.put o.dst y)→Inv cx D' [] n.tmps w'→K n w'):wpOp P ops Q j K a w:=by
 unfold Am.stepM at e;split at e
 case h_2=>cases e
 rename_i t v;rw[Eh]at v;obtain⟨o,i,hd⟩:=v;split at e
 case h_2=>cases e
 rename_i k;rw[Ei]at e;obtain⟨s,x,f⟩:=e;unfold evM at x;rw[i]at x;simp only[hd]at x;rw[Eh]at x;obtain⟨s',d,H⟩:=x;split at H
 case isFalse=>cases H
 rename_i z;cases H;have A:D[t]?=some .any:=by rw[a8,Ei]at k;obtain⟨s',p,l⟩:=k;rw[p];cases s'<;>first|rfl|cases l
 have J:t<D.length:=by
  rcases Em t D.length with g|g
  ·exact g
  ·rw[Ek g]at A;cases A
 split at d
 ·rename_i c;have f:(erD D).set t s=U:=by
   have:ik tk ops j (erD D)=erD D:=by unfold ik;rw[c]
   rw[this]at f;exact f
  have O:Region.wanted o (yielded ops a.tmps)=true→Am.stepV tab fns C (Am.killAll (ek tk ops m anc j) (erD D)) o=some s→wpOp P ops Q j K a w:=by intro X h;unfold wpOp;rw[i];simp only;rw[Ej X];exact .inl (I.stepV ok hf V hd A h fun D' n w' p l L=>G D' n w' (p.trans f) (l.elim fun y h=>⟨o,y,i,h⟩) L)
  unfold tq at d;split at d
  ·rename_i r;exact O (by simp[Region.wanted,r]) d
  ·rename_i g R r;split at d
   case h_2=>cases d
   rename_i b hb;have S:yielded ops a.tmps g=b:=by rw[Eh]at hb;obtain⟨t',p,l⟩:=hb;rw[←fi,mw]at l;have:=(I.killAll (ek tk ops m anc j)).yieldAt l;unfold yielded;rw[p];exact this
   split at d
   ·rename_i q;exact O (by simp[Region.wanted,r,S,q]) d
   ·rename_i q;cases d;unfold wpOp;rw[i];simp only;rw[Eu (by simp[Region.wanted,r,S,q]),hd];have:=I.putUndef J;have Y:Am.putA D t (.tup [])=D.set t (.tup []):=by unfold Am.putA;rw[A]
    rw[Y]at this;exact G _ _ _ ((cN D t (.tup [])).trans f) ⟨o,undef,i,by rw[hd]⟩ this
 ·rename_i u c;obtain⟨M,r⟩:=zH i c;have f:((erD D).set u .any).set t s=U:=by
   have:ik tk ops j (erD D)=(erD D).set u .any:=by unfold ik;rw[c]
   rw[this]at f;exact f
  have N:u∈dz tk ops m:=Fy.2 ⟨j,EW.2 F,c⟩;have hs:ce t s=false:=by have:=Eo.1 z t (by simp);simpa using this
  unfold wpOp;rw[i];simp only;rw[Ej (by simp[Region.wanted,r])];exact .inl (I.stepT ok hd A M (W u N) d hs fun D' n w' p l L=>G D' n w' (p.trans f) (l.elim fun y h=>⟨o,y,i,h⟩) L)
def ax (l:Array Bool)(i:Nat):Prop:=l.getD i false=true
theorem cv {l:Array Bool}{i k:Nat}:ax (l.setIfInBounds i true) k↔(k=i∧i<l.size)∨ax l k:=by
 unfold ax;rw[ET,ET,Array.getElem?_setIfInBounds];by_cases e:i=k
 ·subst e;by_cases h:i<l.size
  ·simp[h]
  ·simp[h]
 ·rw[Eu e];constructor
  ·exact fun h=>.inr h
  ·rintro(⟨h,_⟩|h)
   ·exact absurd h.symm e
   ·exact h
structure ne (tk:Nat→Bool)(ops:Array Oper)(m:Nat)(anc:List (List Nat)):Prop where
 le:m≤ops.size
 topo:∀j i,i∈aQ ops j→i<j
 dst:∀j,j<m→∃t,(ops[j]?).bind (·.dst)=some t
 nodup:(bN ops m).Nodup
 seq:∀j,m≤j→j<ops.size→∀i,i<j→i∈aQ ops j∨∃k∈aQ ops j,i∈anc.getD k []
 tk1:∀k,k<m→∀u,tko tk ops k=some u→∃i,i<m∧i∈anc.getD k []∧(ops[i]?).bind (·.dst)=some u
 tk2:∀k k' u,k<m→k'<m→tko tk ops k=some u→tko tk ops k'=some u→k=k'
 anc:∀j,j<ops.size→∀i∈anc.getD j [],i∈aQ ops j∨∃k∈aQ ops j,i∈anc.getD k []
theorem y4 {tk:Nat→Bool}{ops:Array Oper}{m:Nat}{anc:List (List Nat)}(h:sr tk ops m anc=true):ne tk ops m anc:=by
 unfold sr at h;rw[EF]at h;obtain⟨h,p⟩:=h;simp only[EF,Eo,EW,FR,F3,Fb,Fw]at h;obtain⟨⟨⟨⟨⟨q,r⟩,s⟩,t⟩,v⟩,w⟩:=h;have l:∀k,k<m→∀u,tko tk ops k=some u→((List.range m).any (fun i=>(anc.getD k []).contains i&&decide ((ops[i]?).bind (·.dst)=some u)) && !((gG tk ops m k).contains u))=true:=fun k l u c=>by have:=Eo.1 p k (EW.2 l);rw[c]at this;exact this
 refine⟨q,fun j i hi=>?_,fun j d=>F1.1 (s j d),t,fun j x d i hi=>?_,fun k a u c=>?_,fun k k' u a f c n=>?_,fun j d i hi=>v j d i hi⟩
 ·rcases Em j ops.size with g|g
  ·exact r j g i hi
  ·unfold aQ at hi;rw[E9 g]at hi;cases hi
 ·rcases w j d with g|g
  ·omega
  ·exact g i hi
 ·have:=l k a u c;rw[EF,Fw]at this;obtain⟨⟨i,hi,b⟩,_⟩:=this;rw[EF,Fb,FR]at b;exact⟨i,EW.1 hi,b.1,b.2⟩
 ·have:=l k a u c;rw[EF]at this;have b:=this.2;apply EK;intro o;have:u∈gG tk ops m k:=Fy.2 ⟨k',EW.2 f,by rw[Eu (fun e=>o e.symm)];exact n⟩;rw[←Fb]at this;rw[this]at b;cases b
theorem cY {ops:Array Oper}{l:Array Bool}{j:Nat}(f:l.size=ops.size):j∈Region.ready .any ops l↔j<ops.size∧¬ax l j∧∀i∈aQ ops j,ax l i:=by
 rw[mem_ready];unfold ax aQ;constructor
 ·rintro⟨a,o,c,g⟩;have b:j<ops.size:=(Gy.1 c).1;refine⟨b,?_,?_⟩
  ·rw[ET]at a ⊢;rw[EO (f ▸ b)]at a ⊢;simp at a ⊢;exact a
  ·rw[c];intro i hi;simp only[Ex,Fl]at hi;obtain⟨e,⟨d,hb⟩,rfl⟩:=hi;exact g e (by simpa using d) hb
 ·rintro⟨b,a,c⟩;rw[EO b]at c;refine⟨?_,ops[j],EO b,fun e d hb=>c e.on ?_⟩
  ·rw[ET]at a ⊢;rw[EO (f ▸ b)]at a ⊢;simp at a ⊢;exact a
  ·simp only[Ex,Fl];exact⟨e,⟨by simpa using d,hb⟩,rfl⟩
theorem o9 {P:Program}{ops:Array Oper}{Q:Exit→Act→World→Prop}(c:∀j i,i∈aQ ops j→i<j):
  ∀(l:List Oper)(j:Nat)(b:Array Bool)(a:Act)(w:World),b.size=ops.size→(∀i,l[i]?=ops[j+i]?)→(∀i,i<ops.size→(ax b i↔i<j)) →
   (∀k,j≤k→k<ops.size→∀i,i<k→i∈aQ ops k∨∃n∈aQ ops k,i<n)→wpList P ops Q l a w→wpAny P .any ops Q l.length b a w:=by
 intro l;induction l with
 |nil =>
  intro j b a w hs s f _ h;have t:ops.size≤j:=by have:=s 0;simp at this;exact this
  refine⟨?_,h⟩;apply Fk.2;intro i hi;rw[cY hs]at hi;exact hi.2.1 ((f i hi.1).2 (by omega))
 |cons o l A =>
  intro j b a w hs s f m h;have v:ops[j]?=some o:=by simpa using (s 0).symm
  have t:j<ops.size:=(Gy.1 v).1;have d:∀i,i∈Region.ready .any ops b↔i=j:=by
   intro i;rw[cY hs];constructor
   ·rintro⟨x,B,y⟩;have C:¬i<j:=fun q=>B ((f i x).2 q)
    rcases Em j i with g|g
    ·rcases m i (by omega) x j g with q|⟨n,z,D⟩
     ·exact absurd ((f j t).1 (y j q)) (FD _)
     ·have F:=c i n z;have:=(f n (by omega)).1 (y n z);omega
    ·omega
   ·rintro rfl;exact⟨t,fun q=>FD _ ((f i t).1 q),fun k p=>(f k (by have:=c i k p;omega)).2 (c i k p)⟩
  show _∧_;refine⟨fun q=>?_,fun i hi=>?_⟩
  ·have:=(d j).2 rfl;rw[q]at this;cases this
  ·rw[d]at hi;subst hi;have r:∀a w,wpList P ops Q l a w→wpAny P .any ops Q l.length (b.setIfInBounds i true) a w:=fun a w h=>by
    refine A (i+1) (b.setIfInBounds i true) a w (by simp[hs]) (fun k=>by have:=s (k+1);simpa[Fp,Gl 1 k]using this) (fun k p=>?_) (fun k p=>m k (by omega)) h;rw[cv,f k p];constructor
    ·rintro(⟨rfl,_⟩|q)<;>omega
    ·intro q;by_cases e:k=i
     ·exact .inl ⟨e,by omega⟩
     ·exact .inr (by omega)
   unfold wpOp;rw[v];simp only;unfold wpList at h;split
   ·rename_i u;rw[Ej u]at h;exact h.imp (Oper.wp_mono r) id
   ·rename_i u;rw[Eu u]at h;exact r _ _ h
section
variable  {tab : Tab}{fns : FuncId → Option Func}{C : Sem1}{tk : Nat → Bool}{ops : Array Oper}{m : Nat}{anc : List (List Nat)}
structure Lex (tk:Nat→Bool)(ops:Array Oper)(m:Nat)(anc:List (List Nat))(V0:US)(ts:Nat→Nat):Prop where
 dst:∀j,j<m→∃o,ops[j]?=some o∧o.dst=some (ts j)
 inj:∀i j,i<m→j<m→ts i=ts j→i=j
 any:∀j,j<m→V0[ts j]?=some .any
 tk1:∀k,k<m→∀u,tko tk ops k=some u→∃i,i<m∧i∈anc.getD k []∧ts i=u
 tk2:∀k k' u,k<m→k'<m→tko tk ops k=some u→tko tk ops k'=some u→k=k'
 lt:∀j,j<m→∀i∈anc.getD j [],i<j
structure Shows (tk:Nat→Bool)(ops:Array Oper)(m:Nat)(V0:US)(ts:Nat→Nat)(ss:Nat→Sl Unit Unit)(L:Nat→Prop)(U:US):Prop where
 len:U.length=V0.length
 on:∀j,j<m→L j→(∀k,k<m→L k→tko tk ops k≠some (ts j))→U[ts j]?=some (ss j)
 gone:∀k,k<m→L k→∀u,tko tk ops k=some u→U[u]?=some .any
 off:∀u,(∀j,j<m→L j→ts j≠u)→(∀k,k<m→L k→tko tk ops k≠some u)→U[u]?=V0[u]?
variable  {V0 : US}{ts : Nat → Nat}{ss : Nat → Sl Unit Unit}{L L' : Nat → Prop}{U U' : US}
theorem Shows.any (c:Lex tk ops m anc V0 ts)(h:Shows tk ops m V0 ts ss L U){j:Nat}(d:j<m)(f:¬L j):U[ts j]?=some .any:=by
 by_cases e:∃k,k<m∧L k∧tko tk ops k=some (ts j)
 ·obtain⟨k,g,i,l⟩:=e;exact h.gone k g i _ l
 ·rw[h.off (ts j) (fun k a b e=>f (c.inj k j a d e ▸ b)) fun k a b q=>e ⟨k,a,b,q⟩];exact c.any j d
theorem Shows.set (f:Lex tk ops m anc V0 ts)(h:Shows tk ops m V0 ts ss L U){j:Nat}(l:j<m)(A:¬L j)(r:∀k,k<m→L k→∀i∈anc.getD k [],i<m→L i):Shows tk ops m V0 ts ss (fun i=>i=j∨L i) ((ik tk ops j U).set (ts j) (ss j)):=by
 have s:ts j<U.length:=by
  have:=h.any f l A;rcases Em (ts j) U.length with g|g
  ·exact g
  ·rw[Ek g]at this;cases this
 have n:(ik tk ops j U).length=U.length:=by
  unfold ik;split
  ·rfl
  ·rw[Gn]
 have a:∀v,tko tk ops j≠some v→(ik tk ops j U)[v]?=U[v]?:=fun v hv=>by
  unfold ik;split
  ·rfl
  ·rename_i u d;rw[Es];intro e;exact hv (e ▸ d)
 refine⟨by rw[Gn,n];exact h.len,fun k b hL c=>?_,fun k b hL u d=>?_,fun u d c=>?_⟩
 ·by_cases e:k=j
  ·subst e;rw[Ep (by rw[n];exact s)]
  ·rw[Es (fun q=>e (f.inj j k l b q).symm),a _ (c j l (.inl rfl))];exact h.on k b (hL.resolve_left e) fun k' t w=>c k' t (.inr w)
 ·obtain⟨i,hi,o,p⟩:=f.tk1 k b u d;have x:ts j≠u:=by
   intro q;have y:i=j:=f.inj i j hi l (p.trans q.symm);subst y;rcases hL with rfl|hL
   ·exact FD _ (f.lt _ b _ o)
   ·exact A (r k b hL i o hi)
  rw[Es x];by_cases e:tko tk ops j=some u
  ·have z:u<U.length:=by
    have:=f.any i hi;rw[p]at this;rcases Em u V0.length with g|g
    ·rw[h.len];exact g
    ·rw[Ek g]at this;cases this
   unfold ik;rw[e];simp only;rw[Ep z]
  ·rw[a u e];rcases hL with rfl|hL
   ·exact absurd d e
   ·exact h.gone k b hL u d
 ·rw[Es (d j l (.inl rfl)),a u (c j l (.inl rfl))];exact h.off u (fun k b hL=>d k b (.inr hL)) fun k b hL=>c k b (.inr hL)
theorem Shows.hide (s:Lex tk ops m anc V0 ts)(h:Shows tk ops m V0 ts ss L U)(f:Shows tk ops m V0 ts ss L' U'){j:Nat}(v:¬L j)(g:¬L' j)(w:∀i∈anc.getD j [],i<m→L i∧L' i):
  killAll (ek tk ops m anc j) U=killAll (ek tk ops m anc j) U':=by
 refine mR _ (h.len.trans f.len.symm) fun u x=>?_
 by_cases e:∃i,i<m∧ts i=u
 ·obtain⟨i,hi,rfl⟩:=e;obtain⟨o,y,hd⟩:=s.dst i hi;have b:((anc.getD j []).contains i && !((gG tk ops m j).contains (ts i)))=true:=by apply EK;intro q;apply x;unfold ek;rw[Fy];refine⟨i,EW.2 hi,?_⟩;rw[y];simp only[Eg,hd];rw[Eu q]
  rw[EF,Fb]at b;obtain⟨z,c⟩:=b;have d:∀k,k<m→k≠j→tko tk ops k≠some (ts i):=fun k a l q=>by have:ts i∈gG tk ops m j:=Fy.2 ⟨k,EW.2 a,by rw[Eu l];exact q⟩;rw[←Fb]at this;rw[this]at c;cases c
  obtain⟨A,B⟩:=w i z hi;rw[h.on i hi A fun k a n=>d k a fun e=>v (e ▸ n),f.on i hi B fun k a n=>d k a fun e=>g (e ▸ n)]
 ·have p:∀i,i<m→ts i≠u:=fun i hi q=>e ⟨i,hi,q⟩
  have t:∀k,k<m→tko tk ops k≠some u:=fun k a q=>by obtain⟨i,hi,_,r⟩:=s.tk1 k a u q;exact p i hi r
  rw[h.off u (fun i hi _=>p i hi) fun k a _=>t k a,f.off u (fun i hi _=>p i hi) fun k a _=>t k a]
theorem Shows.ext (n:Lex tk ops m anc V0 ts)(h:Shows tk ops m V0 ts ss L U)(d:Shows tk ops m V0 ts ss L' U')(f:∀i,i<m→L i)(c:∀i,i<m→L' i):U=U':=by
 apply Ft;intro u;by_cases g:∃k,k<m∧tko tk ops k=some u
 ·obtain⟨k,a,j⟩:=g;rw[h.gone k a (f k a) u j,d.gone k a (c k a) u j]
 ·have b:∀k,k<m→tko tk ops k≠some u:=fun k a q=>g ⟨k,a,q⟩
  by_cases e:∃i,i<m∧ts i=u
  ·obtain⟨i,hi,rfl⟩:=e;rw[h.on i hi (f i hi) fun k a _=>b k a,d.on i hi (c i hi) fun k a _=>b k a]
  ·have l:∀i,i<m→ts i≠u:=fun i hi q=>e ⟨i,hi,q⟩
   rw[h.off u (fun i hi _=>l i hi) fun k a _=>b k a,d.off u (fun i hi _=>l i hi) fun k a _=>b k a]
theorem Shows.nr (l:Lex tk ops m anc V0 ts)(h:Shows tk ops m V0 ts ss L U)(j:∀u∈dz tk ops m,∀s∈V0,ce u s=false)(hs:∀i,i<m→∀u∈dz tk ops m,ce u (ss i)=false):
  ∀u∈dz tk ops m,∀s∈U,ce u s=false:=by
 intro u f s c;obtain⟨v,hv⟩:=En c;by_cases g:∃k,k<m∧L k∧tko tk ops k=some v
 ·obtain⟨k,d,a,q⟩:=g;rw[h.gone k d a v q]at hv;cases hv;rfl
 ·have b:∀k,k<m→L k→tko tk ops k≠some v:=fun k d a q=>g ⟨k,d,a,q⟩
  by_cases e:∃i,i<m∧L i∧ts i=v
  ·obtain⟨i,hi,a,rfl⟩:=e;rw[h.on i hi a b]at hv;cases hv;exact hs i hi u f
  ·rw[h.off v (fun i hi a q=>e ⟨i,hi,a,q⟩) b]at hv;exact j u f s (Ef hv)
theorem vJ (a:ne tk ops m anc):∀j,j<ops.size→∀i∈anc.getD j [],i<j:=by
 intro j;induction j using Nat.strongRecOn with
 |ind j b =>
  intro c i hi;rcases a.anc j c i hi with g|⟨k,d,e⟩
  ·exact a.topo j i g
  ·have:=a.topo j k d;have:=b k this (by omega) i e;omega
theorem Aq (a:ne tk ops m anc):∀j,j<m→∀i∈anc.getD j [],i<j:=fun j b=>vJ a j (by have:=a.le;omega)
theorem mm (a:ne tk ops m anc){L:Nat→Prop}(hc:∀k,L k→∀i∈aQ ops k,L i):∀j,j<ops.size→(∀i∈aQ ops j,L i)→∀i∈anc.getD j [],L i:=by
 intro j;induction j using Nat.strongRecOn with
 |ind j d =>
  intro e b i hi;rcases a.anc j e i hi with g|⟨k,c,f⟩
  ·exact b i g
  ·have h:=a.topo j k c;exact d k h (by omega) (hc k (b k c)) i f
theorem Shows.congr {a:Nat→Sl Unit Unit}(h:Shows tk ops m V0 ts ss L U)(e:∀i,i<m→L i→a i=ss i):Shows tk ops m V0 ts a L U :=
 ⟨h.len,fun i hi b c=>by rw[e i hi b];exact h.on i hi b c,h.gone,h.off⟩
theorem Shows.imp (h:Shows tk ops m V0 ts ss L U)(e:∀i,i<m→(L i↔L' i)):Shows tk ops m V0 ts ss L' U :=
 ⟨h.len,fun i hi b c=>h.on i hi ((e i hi).2 b) fun k a d=>c k a ((e k a).1 d),fun k a b=>h.gone k a ((e k a).2 b),fun u f c=>h.off u (fun i hi b=>f i hi ((e i hi).1 b)) fun k a b=>c k a ((e k a).1 b)⟩
theorem p9:∀(n j:Nat){ss:Nat→Sl Unit Unit}{V U:US},Lex tk ops m anc V0 ts→j+n=m→Shows tk ops m V0 ts ss (fun i=>i<j) V →
  gU tab fns C tk ops m anc n j V=some U→∃a,(∀i,i<j→a i=ss i)∧Shows tk ops m V0 ts a (fun i=>i<m) U∧∀i,j≤i→i<m→∃t,Shows tk ops m V0 ts a (fun k=>k<i) t∧evM tab fns C tk ops m anc i t=some (a i)
 | 0,j,ss,V,U,f,x,l,e=>by
  cases e;have:j=m:=by omega
  subst this;exact⟨ss,fun i _=>rfl,l,fun i p u=>by omega⟩
 |n+1,j,ss,V,U,f,x,l,e=>by
  have d:j<m:=by omega
  simp only[gU,Eh]at e;obtain⟨G,g,y⟩:=e;obtain⟨o,z,hd⟩:=f.dst j d;unfold stepM at g;rw[z,Eg,hd]at g;simp only at g;rw[l.any f d (FD j)]at g;simp only[Ei]at g;obtain⟨s,A,rfl⟩:=g;let b:Nat→Sl Unit Unit:=fun i=>if i=j then s else ss i
  have v:b j=s:=by simp[b]
  have w:∀i,i<j→b i=ss i:=fun i hi=>by
   have:i≠j:=by omega
   simp[b,this]
  have h:Shows tk ops m V0 ts b (fun i=>i<j) V:=l.congr fun i _ r=>w i r
  have c:=h.set f d (FD j) (fun k B r i hi _=>Nat.lt_trans (f.lt k B i hi) r);rw[v]at c;obtain⟨a,p,u,D⟩:=p9 n (j+1) (ss:=b) (V:=(ik tk ops j V).set (ts j) s) f (by omega) (c.imp fun i _=>by constructor<;>intro q<;>omega) y;refine⟨a,fun i hi=>(p i (by omega)).trans (w i hi),u,fun i hi F=>?_⟩;by_cases e:i=j
  ·subst e;refine⟨V,h.congr fun k _ r=>p k (by omega),?_⟩;rw[p i (by omega),v];exact A
  ·exact D i (by omega) F
theorem yb {j:Nat}(h:killAll (ek tk ops m anc j) U=killAll (ek tk ops m anc j) U'):evM tab fns C tk ops m anc j U=evM tab fns C tk ops m anc j U':=by unfold evM;rw[h]
theorem uC (a:Lex tk ops m anc V0 ts)(hv:∀i,i<m→∃c,Shows tk ops m V0 ts ss (fun k=>k<i) c∧evM tab fns C tk ops m anc i c=some (ss i))
  (h:Shows tk ops m V0 ts ss L U) {j:Nat} (b:j<m) (d:¬L j) (e:∀k∈anc.getD j [],L k):stepM tab fns C tk ops m anc U j=some ((ik tk ops j U).set (ts j) (ss j)):=by
 obtain⟨o,f,hd⟩:=a.dst j b;obtain⟨c,g,l⟩:=hv j b;unfold stepM;rw[f,Eg,hd];simp only;rw[h.any a b d];simp only;rw[yb (h.hide a g d (FD j) (fun i hi _=>⟨e i hi,a.lt j b i hi⟩)),l];rfl
theorem tg {j:Nat}{s:Sl Unit Unit}(h:evM tab fns C tk ops m anc j U=some s):∀u∈dz tk ops m,ce u s=false:=by
 unfold evM at h;split at h
 case h_2=>cases h
 split at h
 case h_2=>cases h
 rename_i o c t hd;rw[Eh]at h;obtain⟨s',_,a⟩:=h;split at a
 case isFalse=>cases a
 rename_i hc;cases a;intro u b;have:=Eo.1 hc u (FS _ b);simpa using this
end
theorem nA {l:Array Bool}{rem:List Nat}{n j:Nat}(hs:l.size=n)(a:rem.Nodup)(f:∀i,i∈rem↔i<n∧¬ax l i)(c:j∈rem):
  (rem.erase j).Nodup∧(∀i,i∈rem.erase j↔i<n∧¬ax (l.setIfInBounds j true) i)∧(rem.erase j).length+1=rem.length:=by
 refine⟨a.erase j,fun i=>?_,?_⟩
 ·rw[a.mem_erase_iff,f i,cv];have:=(f j).1 c;constructor
  ·rintro⟨d,b,h⟩;exact⟨b,fun q=>q.elim (fun g=>d g.1) h⟩
  ·rintro⟨d,b⟩;exact⟨fun e=>b (.inl ⟨e,by omega⟩),d,fun q=>b (.inr q)⟩
 ·have:=GE c;have:=List.length_pos_of_mem c;omega
theorem yS {P:Program}{tab:Tab}(ok:aK P tab){fns:FuncId→Option Func}(hf:dA P fns){B:Base}{C:Sem1}{cx:Cx}(hC:da P B C cx){ops:Array Oper}{m:Nat}{anc:List (List Nat)}{Q:Exit→Act→World→Prop}
  {tk:Nat→Bool} (e:ne tk ops m anc) {V0:US} {ts:Nat→Nat} {ss:Nat→Sl Unit Unit} (K:Lex tk ops m anc V0 ts) (hv:∀i,i<m→∃M,Shows tk ops m V0 ts ss (fun k=>k<i) M∧evM tab fns C tk ops m anc i M=some (ss i))
  (h0:∀u∈dz tk ops m,∀s∈V0,ce u s=false) {N:US} (O:Shows tk ops m V0 ts ss (fun i=>i<m) N) {T:Act→Prop} (hT:∀o∈ops.toList,∀a y,T a→T (a.put o.dst y)) (hQ:∀D a w,Inv cx D [] a.tmps w→T a→erD D=N→wpList P ops Q (ops.toList.drop m) a w):
  ∀(n:Nat)(rem:List Nat)(b:Array Bool)(D:DSt)(a:Act)(w:World),rem.length=n→b.size=ops.size→rem.Nodup→(∀i,i∈rem↔i<ops.size∧¬ax b i) →
   (∀i,m≤i→i<ops.size→¬ax b i)→(∀k,ax b k→∀i∈aQ ops k,ax b i)→Inv cx D [] a.tmps w→T a→Shows tk ops m V0 ts ss (ax b) (erD D)→wpAny P .any ops Q n b a w:=by
 intro n;have tail:∀(rem:List Nat)(b:Array Bool)(D:DSt)(a:Act)(w:World),b.size=ops.size→rem.Nodup→(∀i,i∈rem↔i<ops.size∧¬ax b i) →
   (∀i,m≤i→i<ops.size→¬ax b i)→(∀i,i<m→ax b i)→Inv cx D [] a.tmps w→T a→Shows tk ops m V0 ts ss (ax b) (erD D)→wpAny P .any ops Q rem.length b a w:=by
  intro rem b D a w hs f l d c I hd p;have F:(ops.toList.drop m).length=rem.length:=by
   have A:rem.Perm ((List.range ops.size).drop m):=by
    refine(FQ f (List.nodup_range.sublist (Gd _ _))).2 fun i=>?_
    rw[l i,List.mem_iff_getElem?];constructor
    ·rintro⟨r,G⟩;have:m≤i:=by
      rcases Em i m with g|g
      ·exact absurd (c i g) G
      ·exact g
     exact⟨i-m,by rw[E4,Fn (by omega)];congr 1;omega⟩
    ·rintro⟨k,hk⟩;rw[E4]at hk;have t:m+k<ops.size:=by
      rcases Em (m+k) ops.size with g|g
      ·exact g
      ·rw[Ek (by simpa using g)]at hk;cases hk
     rw[Fn t]at hk;cases hk;exact⟨t,d _ (by omega) t⟩
   have:=A.length_eq;simp at this ⊢;omega
  rw[←F];have hE:erD D=N:=p.ext K O c (fun i hi=>hi);refine o9 (e.topo) (ops.toList.drop m) m b a w hs (fun i=>by rw[E4];simp) (fun i hi=>?_) (fun k A v i hi=>(e.seq k A v i hi).imp id fun⟨h,r,G⟩=>⟨h,r,vJ e h (by have:=e.topo k h r;omega) i G⟩) (hQ D a w I hd hE);constructor
  ·intro q;rcases Em i m with g|g
   ·exact g
   ·exact absurd q (d i g hi)
  ·exact c i
 induction n with
 |zero =>
  intro rem b D a w R hs f l d hc I hd p;have he:rem=[]:=Fh.1 R;have:=tail rem b D a w hs f l d (fun i hi=>by
   by_cases q:ax b i
   ·exact q
   ·have:=(l i).2 ⟨by have:=e.le;omega,q⟩;rw[he]at this;cases this) I hd p
  rw[he]at this;exact this
 |succ n ih =>
  intro rem b D a w R hs f l d hc I hd p;by_cases c:∀i,i<m→ax b i
  ·have:=tail rem b D a w hs f l d c I hd p;rw[R]at this;exact this
  ·have x:∃j,j<m∧¬ax b j∧∀i,i<j→ax b i:=by
    have S:∃j,j<m∧¬ax b j:=by apply EK;intro q;exact c fun i hi=>EK fun U=>q ⟨i,hi,U⟩
    obtain⟨j,A,v⟩:=S;induction j using Nat.strongRecOn with
    |ind j V =>
     by_cases q:∀i,i<j→ax b i
     ·exact⟨j,A,v,q⟩
     ·have:∃i,i<j∧¬ax b i:=EK fun U=>q fun i hi=>EK fun W=>U ⟨i,hi,W⟩
      obtain⟨i,hi,X⟩:=this;exact V i hi (by omega) X
   obtain⟨H,A,v,h3⟩:=x;show _∧_;refine⟨fun q=>?_,fun j hj=>?_⟩
   ·have:H∈Region.ready .any ops b:=(cY hs).2 ⟨by have:=e.le;omega,v,fun i hi=>h3 i (e.topo H i hi)⟩;rw[q]at this;cases this
   ·obtain⟨Y,Z,L⟩:=(cY hs).1 hj;have z:j<m:=by
     rcases Em j m with g|g
     ·exact g
     ·rcases e.seq j g Y H (by omega)with q|⟨h,r,G⟩
      ·exact absurd (L H q) v
      ·exact absurd (mm e (fun k hk i hi=>hc k hk i hi) h (by have:=e.topo j h r;omega) (fun i hi=>hc h (L h r) i hi) H G) v
    have J:∀k∈anc.getD j [],ax b k:=mm e (fun k hk i hi=>hc k hk i hi) j Y L;have G4:=uC K hv p z Z J;have G5:=p.nr K h0 (fun i hi=>by obtain⟨M,_,q⟩:=hv i hi;exact tg q);refine I.stepM ok hf hC z G5 G4 fun D' a' w' e1 e2 e3=>?_
    have G6:j∈rem:=(l j).2 ⟨Y,Z⟩;obtain⟨h,k2,k3⟩:=nA hs f l G6;refine ih (rem.erase j) (b.setIfInBounds j true) D' a' w' (by omega) (by simp[hs]) h k2 (fun i h4 h5 q=>?_) (fun k hk i hi=>?_) e3 (by obtain⟨o,y,r,rfl⟩:=e2;exact hT o (Ef (by simpa using r)) a y hd) ?_
    ·rw[cv]at q;rcases q with⟨q,_⟩|q
     ·omega
     ·exact d i h4 h5 q
    ·rw[cv]at hk ⊢;rcases hk with⟨rfl,_⟩|hk
     ·exact .inr (L i hi)
     ·exact .inr (hc k hk i hi)
    ·rw[e1];refine(p.set K z Z (fun k hk hL i hi _=>mm e (fun k hk i hi=>hc k hk i hi) k (by have:=e.le;omega) (fun i hi=>hc k hL i hi) i hi)).imp fun i _=>?_
     rw[cv];constructor
     ·rintro(q|q)
      ·exact .inl ⟨q,by omega⟩
      ·exact .inr q
     ·rintro(⟨q,_⟩|q)
      ·exact .inl q
      ·exact .inr q
theorem b4 {n i:Nat}:¬ax (Array.replicate n false) i:=by intro q;unfold ax at q;rw[ET,Array.getElem?_replicate]at q;split at q<;>cases q
theorem jX {α β:Type}{f:α→Option β}{g:α→β}:∀{l:List α},(∀i∈l,f i=some (g i))→l.filterMap f=l.map g
 |[],_=>rfl
 |a::l,h=>by rw[List.filterMap_cons,h a (by simp),EB,jX fun i hi=>h i (by simp[hi])]
theorem Inv.runD {P:Program}{tab:Tab}(ok:aK P tab)(W:P.follows .mixedOrders=true){fns:FuncId→Option Func}(hf:dA P fns){B:Base}{C:Sem1}{cx:Cx}(O:da P B C cx){tk:Nat→Bool}{ops:Array Oper}{m:Nat}{anc:List (List Nat)}
  {Q:Exit→Act→World→Prop}  {U:US} {T:Act→Prop} (R:∀o∈ops.toList,∀a y,T a→T (a.put o.dst y)) (X:∀D' G w',erD D'=U→T G→Inv cx D' [] G.tmps w'→Q .normal G w') {id:Nat} {D:DSt} {a:Act} {w:World} (I:Inv cx D [] a.tmps w) (hd:T a)
  (e:Am.runD tab fns C tk ops m anc (erD D)=some U):(Code.region id ops true).wp P Q a w:=by
 unfold Am.runD at e;split at e
 case isFalse=>cases e
 rename_i H;rw[EF,EF]at H;obtain⟨⟨H,n⟩,f⟩:=H;have l:=y4 H;rw[Eh]at e;obtain⟨Vm,K,Y⟩:=e;rw[←fi]at K f;have S:=(I.drewn).killAll (bN ops m);generalize L:Am.killAll (bN ops m) D=p at K S f;have b:∃ts:Nat→Nat,∀j,j<m→(ops[j]?).bind (·.dst)=some (ts j):=by refine⟨fun j=>((ops[j]?).bind (·.dst)).getD 0,fun j c=>?_⟩;obtain⟨t,Z⟩:=l.dst j c;simp[Z]
 obtain⟨ts,b⟩:=b;have r:∀j,j<m→∃o,ops[j]?=some o∧o.dst=some (ts j):=fun j c=>by have:=b j c;rw[Eh]at this;exact this
 have v:∀i j,i<m→j<m→ts i=ts j→i=j:=by
  have x:bN ops m=(List.range m).map ts:=by unfold bN;exact jX fun i hi=>b i (EW.1 hi)
  have z:=l.nodup;rw[x]at z;intro i j hi c h;have:=(List.pairwise_map.1 z)
  rcases Ge i j with g|g|g
  ·exact absurd h (FU.1 this i j (by simpa using hi) (by simpa using c) g|> fun q=>by simpa using q)
  ·exact g
  ·exact absurd h.symm (FU.1 this j i (by simpa using c) (by simpa using hi) g|> fun q=>by simpa using q)
 have d:∀j,j<m→ts j∈bN ops m:=fun j c=>Fy.2 ⟨j,EW.2 c,b j c⟩
 have V:Lex tk ops m anc (erD p) ts:=⟨r,v,fun j c=>by rw[←L,fi];refine lC _ ?_ (.inl (d j c));simpa using Eo.1 n _ (d j c),fun k J u M=>by obtain⟨i,hi,N,A⟩:=l.tk1 k J u M;rw[b i hi]at A;exact⟨i,hi,N,by cases A;rfl⟩,l.tk2,Aq l⟩
 have h0:Shows tk ops m (erD p) ts (fun _=>.any) (fun i=>i<0) (erD p):=⟨rfl,fun j _ q=>by omega,fun j _ q=>by omega,fun u _ _=>rfl⟩
 obtain⟨ss,_,k2,k3⟩:=p9 m 0 V (by omega) h0 K;have F:∀u∈dz tk ops m,∀s∈erD p,ce u s=false:=fun u M s hs=>by have:=Eo.1 (Eo.1 f s hs) u M;simpa using this
 refine wp_region_any W ?_;refine yS ok hf O l V (fun i hi=>k3 i (GI i) hi) F k2 (T:=T) R (fun D' G w' q1 q2 q3=>?_) ops.size (List.range ops.size) _ p a _ (by simp) (by simp) Gi (fun i=>?_) (fun i h1 h2 q=>?_) (fun k J=>?_) S hd ?_
 ·exact Inv.runOps (tk:=tk) ok hf O X _ m (fun o ho=>R o (Fi ho)) q1 q2 (by rw[q3];exact Y)
 ·rw[EW];constructor
  ·intro q;exact⟨q,b4⟩
  ·exact fun q=>q.1
 ·exact b4 q
 ·exact absurd J b4
 ·exact⟨rfl,fun j c q=>absurd q b4,fun k J q=>absurd q b4,fun u _ _=>rfl⟩
def lE (σ:List Nat)(o:Oper):Oper:={ o with after:=o.after.map fun e=>{ e with on:=σ.idxOf e.on },guard:=o.guard.map fun g=>(σ.idxOf g.1,g.2) }
def bL (σ:List Nat)(ops:Array Oper):Array Oper:=((σ.filterMap fun j=>ops[j]?).map (lE σ)).toArray
def sB (σ:List Nat)(n:Nat):Bool:=decide σ.Nodup&&σ.all (fun j=>decide (j<n))&&(List.range n).all (fun j=>σ.contains j)
structure PermOk (σ:List Nat)(n:Nat):Prop where
 nodup:σ.Nodup
 lt:∀j∈σ,j<n
 mem:∀j,j<n→j∈σ
theorem zB {σ:List Nat}{n:Nat}(h:sB σ n=true):PermOk σ n:=by unfold sB at h;simp only[EF,FR,Eo,EW,Fb]at h;exact⟨h.1.1,h.1.2,h.2⟩
section
variable  {σ : List Nat}{ops : Array Oper}
theorem qd (h : ∀ j ∈ σ, j < ops.size) : bL σ ops = ((σ.map fun j => lE σ (ops[j]?.getD ⟨none, .alloc 0, 0, "", #[], none⟩))).toArray := by
 unfold bL;congr 1;have : ∀ l : List Nat, (∀ j ∈ l, j < ops.size) → (l.filterMap fun j => ops[j]?).map (lE σ) = l.map fun j => lE σ (ops[j]?.getD ⟨none, .alloc 0, 0, "", #[], none⟩) := by
  intro l a;induction l with
  |nil=>rfl
  |cons j l c =>have b:=EO (a j (by simp));rw[List.filterMap_cons,b];simp only[EB,b,FX];rw[c fun k d=>a k (by simp[d])]
 exact this σ h
theorem PermOk.len {n:Nat}(h:PermOk σ n):σ.length=n:=by
 have a:σ.Perm (List.range n):=(FQ h.nodup Gi).2 fun j=>by rw[EW];exact⟨h.lt j,h.mem j⟩
 rw[a.length_eq,List.length_range]
theorem nR (h:PermOk σ ops.size)(j:Nat):(bL σ ops)[σ.idxOf j]?=(ops[j]?).map (lE σ):=by
 rw[qd h.lt];rcases Em j ops.size with g|g
 ·have a:=h.mem j g;have hi:σ.idxOf j<σ.length:=FJ.2 a;rw[EO g];simp[Et,El hi,Gu hi,EO g]
 ·have a:j∉σ:=fun q=>by have:=h.lt j q;omega
  rw[E9 g,List.idxOf_eq_length a];simp[h.len]
theorem qe (h:PermOk σ ops.size):(bL σ ops).size=ops.size:=by rw[qd h.lt];simp[h.len]
theorem yA (h:PermOk σ ops.size)(j:Nat):aQ (bL σ ops) (σ.idxOf j)=(aQ ops j).map (σ.idxOf ·):=by
 unfold aQ;rw[nR h];cases ops[j]? with
 |none=>rfl
 |some o =>simp only[Ee,lE,Array.toList_map,ES,Gp];congr 1
theorem vo (h:PermOk σ ops.size)(tm:Array Value)(j:Nat):yielded (bL σ ops) tm (σ.idxOf j)=yielded ops tm j:=by
 unfold yielded;rw[nR h];cases ops[j]? with
 |none=>rfl
 |some o=>rfl
theorem t5 (h:PermOk σ ops.size)(tm:Array Value)(o:Oper):Region.wanted (lE σ o) (yielded (bL σ ops) tm)=Region.wanted o (yielded ops tm):=by
 unfold Region.wanted lE;cases o.guard with
 |none=>rfl
 |some g =>obtain⟨g,a⟩:=g;simp only[Ee];rw[vo h]
theorem Ag {P:Program}{o:Oper}{a:Act}{w:World}{K:Act→World→Prop}{Q:Exit→Act→World→Prop}:(lE σ o).wp P a w K Q=o.wp P a w K Q:=rfl
theorem yD {P:Program}{o:Oper}{a:Act}{w:World}:(lE σ o).asks P a w=o.asks P a w:=rfl
theorem xA {P:Program}{Q:Exit→Act→World→Prop}(h:PermOk σ ops.size):∀(k:Nat)(c b:Array Bool)(a:Act)(w:World),c.size=ops.size→b.size=ops.size→(∀j,ax c j↔ax b (σ.idxOf j)) →
  wpAny P .any (bL σ ops) Q k b a w→wpAny P .any ops Q k c a w:=by
 have hz:=qe h;have u:∀{c b:Array Bool},c.size=ops.size→b.size=ops.size→(∀j,ax c j↔ax b (σ.idxOf j))→∀j,j∈Region.ready .any ops c↔(j<ops.size∧σ.idxOf j∈Region.ready .any (bL σ ops) b):=by
  intro c b hs d g j;rw[cY hs,cY (by rw[d,hz]),hz,yA h];constructor
  ·rintro⟨t,f,v⟩;have hi:σ.idxOf j<ops.size:=by rw[←h.len];exact FJ.2 (h.mem j t)
   refine⟨t,hi,fun q=>f ((g j).2 q),fun i hi=>?_⟩;obtain⟨D,x,rfl⟩:=Ex.1 hi;exact(g D).1 (v D x)
  ·rintro⟨t,_,f,v⟩;exact⟨t,fun q=>f ((g j).1 q),fun i hi=>(g i).2 (v _ (FA hi))⟩
 have l:∀{c b:Array Bool},c.size=ops.size→b.size=ops.size→(∀j,ax c j↔ax b (σ.idxOf j))→(Region.ready .any ops c=[]↔Region.ready .any (bL σ ops) b=[]):=by
  intro c b hs d g;rw[Fk,Fk];constructor
  ·intro q p F;have r:=((cY (by rw[d,hz])).1 F).1;rw[hz, ←h.len]at r;have e:σ.idxOf σ[p]=p:=h.nodup.idxOf_getElem p r;exact q σ[p] ((u hs d g _).2 ⟨h.lt _ (FY _),by rw[e];exact F⟩)
  ·exact fun q j y=>q _ ((u hs d g j).1 y).2
 intro k;induction k with
 |zero =>intro c b a w hs d g s;exact⟨(l hs d g).2 s.1,s.2⟩
 |succ k I =>
  intro c b a w hs d g s;refine⟨fun q=>s.1 ((l hs d g).1 q),fun j y=>?_⟩;obtain⟨m,z⟩:=(u hs d g j).1 y;have f:=s.2 _ z;have n:∀a w,wpAny P .any (bL σ ops) Q k (b.setIfInBounds (σ.idxOf j) true) a w→wpAny P .any ops Q k (c.setIfInBounds j true) a w:=fun a w=>by
   refine I _ _ a w (by simp[hs]) (by simp[d]) fun i=>?_
   rw[cv,cv,g i,hs,d];have hi:σ.idxOf j<ops.size:=by rw[←h.len];exact FJ.2 (h.mem j m)
   constructor
   ·rintro(⟨rfl,_⟩|q)
    ·exact .inl ⟨rfl,hi⟩
    ·exact .inr q
   ·rintro(⟨e,_⟩|q)
    ·refine .inl ⟨?_,m⟩;have A:=h.mem j m;have B:i∈σ:=by apply EK;intro q;rw[List.idxOf_eq_length q,h.len]at e;omega
     have G:=Gu (FJ.2 B);have J:=Gu (FJ.2 A);simp only[e]at G;exact G.symm.trans J
    ·exact .inr q
  unfold wpOp at f ⊢;rw[nR h]at f;cases H:ops[j]? with
  |none=>rw[H]at f;exact n _ _ f
  |some o =>
   rw[H]at f;simp only[Ee,t5 h]at f ⊢;split
   ·rename_i C;rw[Ej C,Ag,yD]at f;exact f.imp (Oper.wp_mono n) id
   ·rename_i C;rw[Eu C]at f;exact n _ _ f
end
def stepE (tab:Tab)(fns:FuncId→Option Func)(C:Sem1)(tk:Nat→Bool)(ops:Array Oper)(j:Nat)(D:US):Option US :=(ops[j]?).bind fun o=>runOps tab fns C tk ops [o] j D
def gl (tab:Tab)(fns:FuncId→Option Func)(C:Sem1)(tk:Nat→Bool)(ops:Array Oper):Nat→List Nat→US→List (Option US)
 | 0,rem,D=>match rem with|[]=>[some D]|_=>[none]
 |n+1,rem,D =>
  match rem.filter (fun j=>(aQ ops j).all fun i => !rem.contains i)with
  |[]=>[none]
  |j::a=>(j::a).flatMap fun j=>match stepE tab fns C tk ops j D with
   |some D'=>gl tab fns C tk ops n (rem.erase j) D'
   |none=>[none]
def k6 {α:Type}:List (Option α)→α→Prop|[],_=>True|x::r,U=>x=some U∧k6 r U
theorem k7 {α:Type}{U:α}:∀{l:List (Option α)},k6 l U→∀x∈l,x=some U
 |[],_,x,hx=>by cases hx
 |y::l,h,x,hx=>by
  rcases ER.1 hx with rfl|hx
  ·exact h.1
  ·exact k7 h.2 x hx
theorem Inv.stepE {P:Program}{tab:Tab}(ok:aK P tab){fns:FuncId→Option Func}(hf:dA P fns){B:Base}{C:Sem1}{cx:Cx}(v:da P B C cx){tk:Nat→Bool}{ops:Array Oper}{Q:Exit→Act→World→Prop}{j:Nat}{D:DSt}{a:Act}{w:World}
  (I:Inv cx D [] a.tmps w) {U:US} (e:Am.stepE tab fns C tk ops j (erD D)=some U) {K:Act→World→Prop} (p:∀D' l w',erD D'=U→(∃o y,ops[j]?=some o∧l=a.put o.dst y)→Inv cx D' [] l.tmps w'→K l w'):wpOp P ops Q j K a w:=by
 unfold Am.stepE at e;rw[Eh]at e;obtain⟨o,m,e⟩:=e;have d:∀{x:Option US},(x.bind (Am.runOps tab fns C tk ops [] (j+1)))=some U→x=some U:=fun {x} h=>by rw[Eh]at h;obtain⟨V,i,q⟩:=h;cases q;exact i
 unfold wpOp;rw[m];simp only;have r:Region.wanted o (yielded ops a.tmps)=true→(Am.stepU tab fns C (erD D) o (tk j))=some U→(if Region.wanted o (yielded ops a.tmps)=true then o.wp P a w K Q∨o.asks P a w∧LetsOut Q else K (a.put o.dst undef) w):=by intro z e;rw[Ej z];exact .inl (I.stepU ok hf v e fun D' l w' d i q=>p D' l w' d (i.elim fun y h=>⟨o,y,m,h⟩) q)
 unfold Am.runOps at e;split at e
 ·rename_i n;exact r (by simp[Region.wanted,n]) (d e)
 ·rename_i g s n;split at e
  case h_2=>cases e
  rename_i b hb;have u:yielded ops a.tmps g=b:=by rw[Eh]at hb;obtain⟨t,d,i⟩:=hb;rw[mw]at i;have:=I.yieldAt i;unfold yielded;rw[d];exact this
  split at e
  ·rename_i f;exact r (by simp[Region.wanted,n,u,f]) (d e)
  ·rename_i f;have k:=d e;rw[Eu (by simp[Region.wanted,n,u,f])];split at k
   ·rename_i c;cases k;exact p D _ _ rfl ⟨o,undef,m,rfl⟩ (by rw[c];exact I)
   ·rename_i t c;rw[ch]at k;split at k
    case isFalse=>cases k
    rename_i A;cases k;exact p _ _ _ (oy D t _) ⟨o,undef,m,rfl⟩ (by rw[c];exact I.putUndef A)
theorem qv {P:Program}{tab:Tab}(ok:aK P tab){fns:FuncId→Option Func}(hf:dA P fns){B:Base}{C:Sem1}{cx:Cx}(A:da P B C cx){ops:Array Oper}{tk:Nat→Bool}{Q:Exit→Act→World→Prop}{U:US}{T:Act→Prop}
  (F:∀o∈ops.toList,∀a y,T a→T (a.put o.dst y)) (G:∀D' h w',erD D'=U→T h→Inv cx D' [] h.tmps w'→Q .normal h w'):
  ∀(n:Nat)(rem:List Nat)(b:Array Bool)(D:DSt)(a:Act)(w:World),rem.length=n→b.size=ops.size→rem.Nodup→(∀i,i∈rem↔i<ops.size∧¬ax b i)→(∀j i,i∈aQ ops j→i<ops.size) →
   Inv cx D [] a.tmps w→T a→(∀x∈gl tab fns C tk ops n rem (erD D),x=some U)→wpAny P .any ops Q n b a w:=by
 intro n;have c:∀{rem:List Nat}{b:Array Bool},b.size=ops.size→(∀i,i∈rem↔i<ops.size∧¬ax b i)→(∀j i,i∈aQ ops j→i<ops.size)→∀j,j∈Region.ready .any ops b↔j∈rem.filter (fun j=>(aQ ops j).all fun i => !rem.contains i):=by
  intro rem b hs d e j;rw[cY hs,Fl,d,Eo];constructor
  ·rintro⟨m,p,r⟩;refine⟨⟨m,p⟩,fun i hi=>?_⟩;have:i∉rem:=fun q=>((d i).1 q).2 (r i hi)
   simpa using this
  ·rintro⟨⟨m,p⟩,r⟩;refine⟨m,p,fun i hi=>?_⟩;have:=r i hi;have H:i∉rem:=by simpa using this
   apply EK;intro q;exact H ((d i).2 ⟨e j i hi,q⟩)
 induction n with
 |zero =>
  intro rem b D a w z hs k d e I hd f;have J:rem=[]:=Fh.1 z;subst J;refine⟨?_,?_⟩
  ·apply Fk.2;intro i hi;rw[c hs d e]at hi;cases hi
  ·have:=f (some (erD D)) (by simp[gl]);cases this;exact G D a w rfl hd I
 |succ n K =>
  intro rem b D a w z hs k d e I hd f;show _∧_;unfold gl at f;cases hc:rem.filter (fun j=>(aQ ops j).all fun i => !rem.contains i)with
  |nil=>rw[hc]at f;have:=f none (by simp);cases this
  |cons L W =>
   refine⟨fun q=>?_,fun j l=>?_⟩
   ·have:L∈Region.ready .any ops b:=by rw[c hs d e,hc];simp
    rw[q]at this;cases this
   ·have s:=l;rw[c hs d e]at l;have t:=(Fl.1 l).1;rw[hc]at f l;have g:∀x∈(match Am.stepE tab fns C tk ops j (erD D)with|some D'=>gl tab fns C tk ops n (rem.erase j) D'|none=>[none]),x=some U:=fun x u=>f x (Eq.2 ⟨j,l,u⟩)
    split at g
    ·rename_i D1 v;refine I.stepE ok hf A v fun D' h w' M N O=>?_
     obtain⟨X,Y,Z⟩:=(cY hs).1 s;obtain⟨R,S,k3⟩:=nA hs k d t;refine K (rem.erase j) (b.setIfInBounds j true) D' h w' (by omega) (by simp[hs]) R S e O (by obtain⟨o,y,V,rfl⟩:=N;exact F o (Ef (by simpa using V)) a y hd) (by rw[M];exact g)
    ·have:=g none (by simp);cases this
def pK (tk:Nat→Bool)(ops:Array Oper)(m0:Nat)(anc:List (List Nat)):Bool :=
 decide (m0+1≤ops.size) &&
 (List.range ops.size).all (fun j=>(aQ ops j).all fun i=>decide (i<j)) &&
 (List.range (m0+1)).all (fun j=>((ops[j]?).bind (·.dst)).isSome)&&decide ((bN ops (m0+1)).Nodup) &&
 (List.range ops.size).all (fun j=>(anc.getD j []).all fun i=>(aQ ops j).contains i ||(aQ ops j).any fun k=>(anc.getD k []).contains i) &&
 (List.range ops.size).all (fun j=>decide (j<m0+1)||(List.range m0).all fun i=>(aQ ops j).contains i ||(aQ ops j).any fun k=>(anc.getD k []).contains i) &&
 (List.range (m0+1)).all (fun k=>match tko tk ops k with
  |some u=>(List.range (m0+1)).any (fun i=>(anc.getD k []).contains i&&decide ((ops[i]?).bind (·.dst)=some u)) && !((gG tk ops (m0+1) k).contains u)
  |none=>true)
structure lJ (tk:Nat→Bool)(ops:Array Oper)(m0:Nat)(anc:List (List Nat)):Prop where
 le:m0+1≤ops.size
 topo:∀j i,i∈aQ ops j→i<j
 dst:∀j,j<m0+1→∃t,(ops[j]?).bind (·.dst)=some t
 nodup:(bN ops (m0+1)).Nodup
 seq:∀j,m0+1≤j→j<ops.size→∀i,i<m0→i∈aQ ops j∨∃k∈aQ ops j,i∈anc.getD k []
 tk1:∀k,k<m0+1→∀u,tko tk ops k=some u→∃i,i<m0+1∧i∈anc.getD k []∧(ops[i]?).bind (·.dst)=some u
 tk2:∀k k' u,k<m0+1→k'<m0+1→tko tk ops k=some u→tko tk ops k'=some u→k=k'
 anc:∀j,j<ops.size→∀i∈anc.getD j [],i∈aQ ops j∨∃k∈aQ ops j,i∈anc.getD k []
theorem xM {tk:Nat→Bool}{ops:Array Oper}{m0:Nat}{anc:List (List Nat)}(h:pK tk ops m0 anc=true):lJ tk ops m0 anc:=by
 unfold pK at h;rw[EF]at h;obtain⟨h,o⟩:=h;simp only[EF,Eo,EW,FR,F3,Fb,Fw]at h;obtain⟨⟨⟨⟨⟨p,q⟩,r⟩,s⟩,t⟩,v⟩:=h;have l:∀k,k<m0+1→∀u,tko tk ops k=some u→((List.range (m0+1)).any (fun i=>(anc.getD k []).contains i&&decide ((ops[i]?).bind (·.dst)=some u)) && !((gG tk ops (m0+1) k).contains u))=true:=fun k l u c=>by have:=Eo.1 o k (EW.2 l);rw[c]at this;exact this
 refine⟨p,fun j i hi=>?_,fun j d=>F1.1 (r j d),s,fun j w d i hi=>?_,fun k a u c=>?_,fun k k' u a f c m=>?_,fun j d i hi=>t j d i hi⟩
 ·rcases Em j ops.size with g|g
  ·exact q j g i hi
  ·unfold aQ at hi;rw[E9 g]at hi;cases hi
 ·rcases v j d with g|g
  ·omega
  ·exact g i hi
 ·have:=l k a u c;rw[EF,Fw]at this;obtain⟨⟨i,hi,b⟩,_⟩:=this;rw[EF,Fb,FR]at b;exact⟨i,EW.1 hi,b.1,b.2⟩
 ·have:=l k a u c;rw[EF]at this;have b:=this.2;apply EK;intro n;have:u∈gG tk ops (m0+1) k:=Fy.2 ⟨k',EW.2 f,by rw[Eu (fun e=>n e.symm)];exact m⟩;rw[←Fb]at this;rw[this]at b;cases b
section
variable  {tab : Tab}{fns : FuncId → Option Func}{C : Sem1}{tk : Nat → Bool}{ops : Array Oper}{m m0 : Nat}{anc : List (List Nat)}{V0 : US}{ts : Nat → Nat}{ss : Nat → Sl Unit Unit}{L L' : Nat → Prop}{U U' : US}
theorem yV (a:lJ tk ops m0 anc):∀j,j<ops.size→∀i∈anc.getD j [],i<j:=by
 intro j;induction j using Nat.strongRecOn with
 |ind j b =>
  intro c i hi;rcases a.anc j c i hi with g|⟨k,d,e⟩
  ·exact a.topo j i g
  ·have:=a.topo j k d;have:=b k this (by omega) i e;omega
theorem zU (a:lJ tk ops m0 anc):∀j,j<m0+1→∀i∈anc.getD j [],i<j:=fun j b=>yV a j (by have:=a.le;omega)
theorem ln (a:lJ tk ops m0 anc){L:Nat→Prop}(hc:∀k,L k→∀i∈aQ ops k,L i):∀j,j<ops.size→(∀i∈aQ ops j,L i)→∀i∈anc.getD j [],L i:=by
 intro j;induction j using Nat.strongRecOn with
 |ind j d =>
  intro e b i hi;rcases a.anc j e i hi with g|⟨k,c,f⟩
  ·exact b i g
  ·have h:=a.topo j k c;exact d k h (by omega) (hc k (b k c)) i f
theorem Shows.ext2 (h:Shows tk ops m V0 ts ss L U)(d:Shows tk ops m V0 ts ss L U'):U=U':=by
 refine Ft fun u=>?_
 by_cases f:∃k,k<m∧L k∧tko tk ops k=some u
 ·obtain⟨k,c,a,q⟩:=f;rw[h.gone k c a u q,d.gone k c a u q]
 ·have b:∀k,k<m→L k→tko tk ops k≠some u:=fun k c a q=>f ⟨k,c,a,q⟩
  by_cases e:∃i,i<m∧L i∧ts i=u
  ·obtain⟨i,hi,a,rfl⟩:=e;rw[h.on i hi a b,d.on i hi a b]
  ·have g:∀i,i<m→L i→ts i≠u:=fun i hi a q=>e ⟨i,hi,a,q⟩
   rw[h.off u g b,d.off u g b]
theorem lD:∀(n j:Nat){ss:Nat→Sl Unit Unit}{V U:US},Lex tk ops m anc V0 ts→j+n≤m→Shows tk ops m V0 ts ss (fun i=>i<j) V →
  gU tab fns C tk ops m anc n j V=some U→∃a,(∀i,i<j→a i=ss i)∧Shows tk ops m V0 ts a (fun i=>i<j+n) U∧∀i,j≤i→i<j+n→∃t,Shows tk ops m V0 ts a (fun k=>k<i) t∧evM tab fns C tk ops m anc i t=some (a i)
 | 0,j,ss,V,U,f,x,l,e=>by cases e;exact⟨ss,fun i _=>rfl,l,fun i p u=>by omega⟩
 |n+1,j,ss,V,U,f,x,l,e=>by
  have d:j<m:=by omega
  simp only[gU,Eh]at e;obtain⟨F,g,y⟩:=e;obtain⟨o,z,hd⟩:=f.dst j d;unfold stepM at g;rw[z,Eg,hd]at g;simp only at g;rw[l.any f d (FD j)]at g;simp only[Ei]at g;obtain⟨s,A,rfl⟩:=g;let b:Nat→Sl Unit Unit:=fun i=>if i=j then s else ss i
  have v:b j=s:=by simp[b]
  have w:∀i,i<j→b i=ss i:=fun i hi=>by
   have:i≠j:=by omega
   simp[b,this]
  have h:Shows tk ops m V0 ts b (fun i=>i<j) V:=l.congr fun i _ r=>w i r
  have c:=h.set f d (FD j) (fun k B r i hi _=>Nat.lt_trans (f.lt k B i hi) r);rw[v]at c;obtain⟨a,p,u,D⟩:=lD n (j+1) (ss:=b) (V:=(ik tk ops j V).set (ts j) s) f (by omega) (c.imp fun i _=>by constructor<;>intro q<;>omega) y;refine⟨a,fun i hi=>(p i (by omega)).trans (w i hi),u.imp (fun i _=>by constructor<;>intro q<;>omega),fun i hi G=>?_⟩;by_cases e:i=j
  ·subst e;refine⟨V,h.congr fun k _ r=>p k (by omega),?_⟩;rw[p i (by omega),v];exact A
  ·exact D i (by omega) (by omega)
end
theorem xB {P:Program}{tab:Tab}(ok:aK P tab){fns:FuncId→Option Func}(hf:dA P fns){B:Base}{C:Sem1}{cx:Cx}(Y:da P B C cx){ops:Array Oper}{m0:Nat}{anc:List (List Nat)}{Q:Exit→Act→World→Prop}
  {tk:Nat→Bool} (c:lJ tk ops m0 anc) {V0:US} {ts:Nat→Nat} {ss:Nat→Sl Unit Unit} (F:Lex tk ops (m0+1) anc V0 ts) (hv:∀i,i<(m0+1)→∃G,Shows tk ops (m0+1) V0 ts ss (fun k=>k<i) G∧evM tab fns C tk ops (m0+1) anc i G=some (ss i))
  (Z:∀u∈dz tk ops (m0+1),∀s∈V0,ce u s=false) {T:Act→Prop} (hT:∀o∈ops.toList,∀a y,T a→T (a.put o.dst y)) (tail:∀(rem:List Nat)(b:Array Bool)(D:DSt)(a:Act)(w:World),b.size=ops.size→rem.Nodup→(∀i,i∈rem↔i<ops.size∧¬ax b i) →
   (∀i,(m0+1)≤i→i<ops.size→¬ax b i)→(∀i,i<m0→ax b i)→Inv cx D [] a.tmps w→T a→Shows tk ops (m0+1) V0 ts ss (ax b) (erD D)→wpAny P .any ops Q rem.length b a w):
  ∀(n:Nat)(rem:List Nat)(b:Array Bool)(D:DSt)(a:Act)(w:World),rem.length=n→b.size=ops.size→rem.Nodup→(∀i,i∈rem↔i<ops.size∧¬ax b i) →
   (∀i,(m0+1)≤i→i<ops.size→¬ax b i)→(∀k,ax b k→∀i∈aQ ops k,ax b i)→Inv cx D [] a.tmps w→T a→Shows tk ops (m0+1) V0 ts ss (ax b) (erD D)→wpAny P .any ops Q n b a w:=by
 intro n;induction n with
 |zero =>
  intro rem b D a w H hs d m e hc I hd p;have X:rem=[]:=Fh.1 H;have:=tail rem b D a w hs d m e (fun i hi=>by
   by_cases q:ax b i
   ·exact q
   ·have:=(m i).2 ⟨by have:=c.le;omega,q⟩;rw[X]at this;cases this) I hd p
  rw[X]at this;exact this
 |succ n ih =>
  intro rem b D a w H hs d m e hc I hd p;by_cases f:∀i,i<m0→ax b i
  ·have:=tail rem b D a w hs d m e f I hd p;rw[H]at this;exact this
  ·have h:∃j,j<m0∧¬ax b j∧∀i,i<j→ax b i:=by
    have J:∃j,j<m0∧¬ax b j:=by apply EK;intro q;exact f fun i hi=>EK fun K=>q ⟨i,hi,K⟩
    obtain⟨j,L,t⟩:=J;induction j using Nat.strongRecOn with
    |ind j M =>
     by_cases q:∀i,i<j→ax b i
     ·exact⟨j,L,t,q⟩
     ·have:∃i,i<j∧¬ax b i:=EK fun K=>q fun i hi=>EK fun N=>K ⟨i,hi,N⟩
      obtain⟨i,hi,O⟩:=this;exact M i hi (by omega) O
   obtain⟨v,L,t,h3⟩:=h;show _∧_;refine⟨fun q=>?_,fun j hj=>?_⟩
   ·have:v∈Region.ready .any ops b:=(cY hs).2 ⟨by have:=c.le;omega,t,fun i hi=>h3 i (c.topo v i hi)⟩;rw[q]at this;cases this
   ·obtain⟨R,S,z⟩:=(cY hs).1 hj;have l:j<m0+1:=by
     rcases Em j (m0+1)with g|g
     ·exact g
     ·rcases c.seq j g R v L with q|⟨r,A,q2⟩
      ·exact absurd (z v q) t
      ·exact absurd (ln c (fun k hk i hi=>hc k hk i hi) r (by have:=c.topo j r A;omega) (fun i hi=>hc r (z r A) i hi) v q2) t
    have x:∀k∈anc.getD j [],ax b k:=ln c (fun k hk i hi=>hc k hk i hi) j R z;have U:=uC F hv p l S x;have V:=p.nr F Z (fun i hi=>by obtain⟨G,_,q⟩:=hv i hi;exact tg q);refine I.stepM ok hf Y l V U fun D' a' w' e1 e2 e3=>?_
    have W:j∈rem:=(m j).2 ⟨R,S⟩;obtain⟨r,k2,k3⟩:=nA hs d m W;refine ih (rem.erase j) (b.setIfInBounds j true) D' a' w' (by omega) (by simp[hs]) r k2 (fun i h4 h5 q=>?_) (fun k hk i hi=>?_) e3 (by obtain⟨o,y,A,rfl⟩:=e2;exact hT o (Ef (by simpa using A)) a y hd) ?_
    ·rw[cv]at q;rcases q with⟨q,_⟩|q
     ·omega
     ·exact e i h4 h5 q
    ·rw[cv]at hk ⊢;rcases hk with⟨rfl,_⟩|hk
     ·exact .inr (z i hi)
     ·exact .inr (hc k hk i hi)
    ·rw[e1];refine(p.set F l S (fun k hk hL i hi _=>ln c (fun k hk i hi=>hc k hk i hi) k (by have:=c.le;omega) (fun i hi=>hc k hL i hi) i hi)).imp fun i _=>?_
     rw[cv];constructor
     ·rintro(q|q)
      ·exact .inl ⟨q,by omega⟩
      ·exact .inr q
     ·rintro(⟨q,_⟩|q)
      ·exact .inl q
      ·exact .inr q
theorem pL (n k:Nat)(_:k≤n):(∀i,i∈(List.range n).drop k↔k≤i∧i<n)∧((List.range n).drop k).Nodup∧((List.range n).drop k).length=n-k:=by
 refine⟨fun i=>?_,List.nodup_range.sublist (Gd _ _),by simp⟩;rw[List.mem_iff_getElem?];constructor
 ·rintro⟨j,a⟩;rw[E4]at a;have b:k+j<n:=by
   rcases Em (k+j) n with g|g
   ·exact g
   ·rw[Ek (by simpa using g)]at a;cases a
  rw[Fn b]at a;cases a;omega
 ·rintro⟨c,d⟩;exact⟨i-k,by rw[E4,Fn (by omega)];congr 1;omega⟩
open Classical in
noncomputable def runD2 (tab:Tab)(fns:FuncId→Option Func)(C:Sem1)(tk:Nat→Bool)(ops:Array Oper)(σ:List Nat)(m0:Nat)(anc:List (List Nat))(D:US):Option US :=
 if sB σ ops.size=true∧(pK tk (bL σ ops) m0 anc&&(bN (bL σ ops) (m0+1)).all (fun t=>decide (t<D.length))&&(killAll (bN (bL σ ops) (m0+1)) D).all (fun s=>(dz tk (bL σ ops) (m0+1)).all fun u => !ce u s))=true then
  (gU tab fns C tk (bL σ ops) (m0+1) anc m0 0 (killAll (bN (bL σ ops) (m0+1)) D)).bind fun a =>
   (gU tab fns C tk (bL σ ops) (m0+1) anc 1 m0 a).bind fun b =>
    match gl tab fns C tk (bL σ ops) (ops.size-(m0+1)) ((List.range ops.size).drop (m0+1)) b with
    |some U::r=>if k6 r U∧k6 (gl tab fns C tk (bL σ ops) (ops.size-m0) ((List.range ops.size).drop m0) a) U then some U else none
    |_=>none
 else none
theorem Inv.runD2 {P:Program}{tab:Tab}(ok:aK P tab)(hm:P.follows .mixedOrders=true){fns:FuncId→Option Func}(hf:dA P fns){B:Base}{C:Sem1}{cx:Cx}(hC:da P B C cx){tk:Nat→Bool}{ops:Array Oper}{σ:List Nat}{m0:Nat}{anc:List (List Nat)}
  {Q:Exit→Act→World→Prop}  {U:US} {T:Act→Prop} (hT:∀o∈ops.toList,∀a y,T a→T (a.put o.dst y)) (hQ:∀D' L w',erD D'=U→T L→Inv cx D' [] L.tmps w'→Q .normal L w') {id:Nat} {D:DSt} {a:Act} {w:World} (I:Inv cx D [] a.tmps w) (hd:T a)
  (e:Am.runD2 tab fns C tk ops σ m0 anc (erD D)=some U):(Code.region id ops true).wp P Q a w:=by
 unfold Am.runD2 at e;split at e
 case isFalse=>cases e
 rename_i hc;obtain⟨hp,hB⟩:=hc;have hP:=zB hp;have hz:=qe hP;have H:∀o∈(bL σ ops).toList,∀a y,T a→T (a.put o.dst y):=by intro o ho;unfold bL at ho;rw[Ex]at ho;obtain⟨o',h1,rfl⟩:=ho;rw[Fy]at h1;obtain⟨j,_,h2⟩:=h1;exact hT o' (Ef (by simpa using h2))
 rw[EF,EF]at hB;obtain⟨⟨hB,O⟩,J⟩:=hB;refine wp_region_any hm (xA hP ops.size _ (Array.replicate ops.size false) a _ (by simp) (by simp) (fun j=>⟨fun q=>absurd q b4,fun q=>absurd q b4⟩) ?_);rw[←hz]at e ⊢;generalize bL σ ops=b at *;clear hP hp hT;have A:=xM hB;rw[Eh]at e;obtain⟨Vx,e1,e⟩:=e;rw[Eh]at e;obtain⟨Vm,e2,R⟩:=e;rw[←fi]at e1 J;have I0:=(I.drewn).killAll (bN b (m0+1));generalize G4:Am.killAll (bN b (m0+1)) D=K at e1 I0 J;have d:∃ts:Nat→Nat,∀j,j<m0+1→(b[j]?).bind (·.dst)=some (ts j):=by refine⟨fun j=>((b[j]?).bind (·.dst)).getD 0,fun j f=>?_⟩;obtain⟨t,ht⟩:=A.dst j f;simp[ht]
 obtain⟨ts,d⟩:=d;have S:∀j,j<m0+1→∃o,b[j]?=some o∧o.dst=some (ts j):=fun j f=>by have:=d j f;rw[Eh]at this;exact this
 have V:∀i j,i<m0+1→j<m0+1→ts i=ts j→i=j:=by
  have W:bN b (m0+1)=(List.range (m0+1)).map ts:=by unfold bN;exact jX fun i hi=>d i (EW.1 hi)
  have l:=A.nodup;rw[W]at l;intro i j hi f h;have:=(List.pairwise_map.1 l)
  rcases Ge i j with g|g|g
  ·exact absurd h (FU.1 this i j (by simpa using hi) (by simpa using f) g|> fun q=>by simpa using q)
  ·exact g
  ·exact absurd h.symm (FU.1 this j i (by simpa using f) (by simpa using hi) g|> fun q=>by simpa using q)
 have F:∀j,j<m0+1→ts j∈bN b (m0+1):=fun j f=>Fy.2 ⟨j,EW.2 f,d j f⟩
 have hx:Lex tk b (m0+1) anc (erD K) ts:=⟨S,V,fun j f=>by rw[←G4,fi];refine lC _ ?_ (.inl (F j f));simpa using Eo.1 O _ (F j f),fun k hk u hu=>by obtain⟨i,hi,G5,m⟩:=A.tk1 k hk u hu;rw[d i hi]at m;exact⟨i,hi,G5,by cases m;rfl⟩,A.tk2,zU A⟩
 have h0:Shows tk b (m0+1) (erD K) ts (fun _=>.any) (fun i=>i<0) (erD K):=⟨rfl,fun j _ q=>by omega,fun j _ q=>by omega,fun u _ _=>rfl⟩
 obtain⟨s1,_,k2,k3⟩:=lD m0 0 hx (by omega) h0 e1;obtain⟨ss,g1,g2,g3⟩:=lD 1 m0 hx (by omega) (k2.imp fun i _=>by rw[FI]) e2;have kx:Shows tk b (m0+1) (erD K) ts ss (fun i=>i<m0) Vx:=(k2.imp fun i _=>by rw[FI]).congr fun i _ hL=>g1 i hL
 have hv:∀i,i<m0+1→∃Vi,Shows tk b (m0+1) (erD K) ts ss (fun k=>k<i) Vi∧evM tab fns C tk b (m0+1) anc i Vi=some (ss i):=fun i hi=>by
  by_cases h:i<m0
  ·obtain⟨Vi,M,G⟩:=k3 i (GI i) (by omega);exact⟨Vi,M.congr fun k _ hL=>g1 k (by omega),by rw[G,g1 i h]⟩
  ·exact g3 i (by omega) hi
 have X:∀u∈dz tk b (m0+1),∀s∈erD K,ce u s=false:=fun u hu s hs=>by have:=Eo.1 (Eo.1 J s hs) u hu;simpa using this
 have n:(∀x∈gl tab fns C tk b (b.size-(m0+1)) ((List.range b.size).drop (m0+1)) Vm,x=some U)∧∀x∈gl tab fns C tk b (b.size-m0) ((List.range b.size).drop m0) Vx,x=some U:=by
  split at R
  case h_2=>cases R
  rename_i U' r hr;split at R
  case isFalse=>cases R
  rename_i N;cases R;refine⟨fun x hx=>?_,k7 N.2⟩;rw[hr]at hx;rcases ER.1 hx with rfl|hx
  ·rfl
  ·exact k7 N.1 x hx
 have Y:∀j i,i∈aQ b j→i<b.size:=fun j i hi=>by
  have:=A.topo j i hi;rcases Em j b.size with g|g
  ·omega
  ·unfold aQ at hi;rw[E9 g]at hi;cases hi
 have G6:=A.le;refine xB ok hf hC A hx hv X (T:=T) H (fun rem c D' L w' hs l hr Z p I' m hS=>?_) b.size (List.range b.size) _ K a _ (by simp) (by simp) Gi (fun i=>?_) (fun i h1 h2 q=>?_) (fun k hk=>?_) I0 hd ?_
 ·by_cases N:ax c m0
  ·have v:∀i,i<m0+1→ax c i:=fun i hi=>by
    rcases Em i m0 with g|g
    ·exact p i g
    ·have:i=m0:=by omega
     rw[this];exact N
   have hE:erD D'=Vm:=hS.ext2 (g2.imp fun i hi=>⟨fun _=>v i hi,fun _=>hi⟩);obtain⟨d1,d2,d3⟩:=pL b.size (m0+1) G6;have z:∀i,i∈(List.range b.size).drop (m0+1)↔i<b.size∧¬ax c i:=fun i=>by
    rw[d1];constructor
    ·exact fun q=>⟨q.2,Z i q.1 q.2⟩
    ·rintro⟨M,G⟩;rcases Em i (m0+1)with g|g
     ·exact absurd (v i g) G
     ·exact⟨g,M⟩
   have hl:rem.length=b.size-(m0+1):=by rw[←d3];exact((FQ l d2).2 fun i=>by rw[hr,z]).length_eq
   rw[hl];exact qv ok hf hC H hQ _ _ c D' L w' d3 hs d2 z Y I' m (by rw[hE];exact n.1)
  ·have hE:erD D'=Vx:=hS.ext2 (kx.imp fun i hi=>⟨fun q=>p i q,fun q=>by
    rcases Em i m0 with g|g
    ·exact g
    ·have:i=m0:=by omega
     rw[this]at q;exact absurd q N⟩)
   obtain⟨d1,d2,d3⟩:=pL b.size m0 (by omega);have z:∀i,i∈(List.range b.size).drop m0↔i<b.size∧¬ax c i:=fun i=>by
    rw[d1];constructor
    ·rintro⟨M,G⟩;refine⟨G,?_⟩;by_cases g:i=m0
     ·rw[g];exact N
     ·exact Z i (by omega) G
    ·rintro⟨M,G⟩;rcases Em i m0 with g|g
     ·exact absurd (p i g) G
     ·exact⟨g,M⟩
   have hl:rem.length=b.size-m0:=by rw[←d3];exact((FQ l d2).2 fun i=>by rw[hr,z]).length_eq
   rw[hl];exact qv ok hf hC H hQ _ _ c D' L w' d3 hs d2 z Y I' m (by rw[hE];exact n.2)
 ·rw[EW];constructor
  ·intro q;exact⟨q,b4⟩
  ·exact fun q=>q.1
 ·exact b4 q
 ·exact absurd hk b4
 ·exact⟨rfl,fun j f q=>absurd q b4,fun k hk q=>absurd q b4,fun u _ _=>rfl⟩
def xy (ops:Array Oper)(m:Nat):Bool :=decide (m≤ops.size)&&(List.range ops.size).all (fun j=>(aQ ops j).all fun i=>decide (i<j)) && (List.range ops.size).all (fun j=>decide (j<m)||(List.range j).all fun i=>(aQ ops j).contains i)
theorem wS {l:Array Bool}{rem:List Nat}{m j:Nat}(h:m≤l.size)(a:rem.Nodup)(e:∀i,i∈rem↔i<m∧¬ax l i)(c:j∈rem):
  (rem.erase j).Nodup∧(∀i,i∈rem.erase j↔i<m∧¬ax (l.setIfInBounds j true) i)∧(rem.erase j).length+1=rem.length:=by
 have f:=(e j).1 c;refine⟨a.erase j,fun i=>?_,?_⟩
 ·rw[a.mem_erase_iff,e,cv];constructor
  ·rintro⟨d,b,g⟩;exact⟨b,fun q=>q.elim (fun q=>d q.1) g⟩
  ·rintro⟨d,b⟩;exact⟨fun q=>b (.inl ⟨q,by omega⟩),d,fun q=>b (.inr q)⟩
 ·have:=GE c;have:=List.length_pos_of_mem c;omega
theorem vF {P:Program}{tab:Tab}(ok:aK P tab){fns:FuncId→Option Func}(hf:dA P fns){B:Base}{C:Sem1}{cx:Cx}(M:da P B C cx){ops:Array Oper}{tk:Nat→Bool}{Q:Exit→Act→World→Prop}{U:US}{T:Act→Prop}{m k:Nat}(hk:m+k=ops.size)
  (N:∀o∈ops.toList,∀a y,T a→T (a.put o.dst y)) (e:∀j i,i∈aQ ops j→i<j) (s:∀j,m≤j→j<ops.size→∀i,i<j→i∈aQ ops j)
  (O:∀(b:Array Bool) D' t w',b.size=ops.size→(∀i,i<ops.size→(ax b i↔i<m))→erD D'=U→T t→Inv cx D' [] t.tmps w'→wpAny P .any ops Q k b t w'):
  ∀(n:Nat)(rem:List Nat)(b:Array Bool)(D:DSt)(a:Act)(w:World),rem.length=n→b.size=ops.size→rem.Nodup→(∀i,i∈rem↔i<m∧¬ax b i)→(∀i,m≤i→¬ax b i) →
   Inv cx D [] a.tmps w→T a→(∀x∈gl tab fns C tk ops n rem (erD D),x=some U)→wpAny P .any ops Q (n+k) b a w:=by
 intro n;induction n with
 |zero =>
  intro rem b D a w F hs u d f I hd l;have R:rem=[]:=Fh.1 F;subst R;rw[FI];have:=l (some (erD D)) (by simp[gl]);cases this;refine O b D a w hs (fun i hi=>⟨fun q=>?_,fun q=>?_⟩) rfl hd I
  ·rcases Em i m with g|g
   ·exact g
   ·exact absurd q (f i g)
  ·apply EK;intro h;have:=(d i).2 ⟨q,h⟩;cases this
 |succ n S =>
  intro rem b D a w F hs u d f I hd l;have c:∀j,j∈Region.ready .any ops b↔j∈rem.filter (fun j=>(aQ ops j).all fun i => !rem.contains i):=by
   intro j;rw[cY hs,Fl,d,Eo];constructor
   ·rintro⟨L,G,A⟩;have H:j<m:=by
     rcases Em j m with g|g
     ·exact g
     ·exfalso;cases rem with
      |nil=>cases F
      |cons i r =>have hi:=(d i).1 (by simp);exact hi.2 (A i (s j g L i (by omega)))
    refine⟨⟨H,G⟩,fun i hi=>?_⟩;have:i∉rem:=fun q=>((d i).1 q).2 (A i hi)
    simpa using this
   ·rintro⟨⟨L,G⟩,A⟩;refine⟨by omega,G,fun i hi=>?_⟩;have:=A i hi;have V:i∉rem:=by simpa using this
    apply EK;intro q;exact V ((d i).2 ⟨by have:=e j i hi;omega,q⟩)
  rw[show n+1+k=(n+k)+1 by omega];show _∧_;unfold gl at l;cases hc:rem.filter (fun j=>(aQ ops j).all fun i => !rem.contains i)with
  |nil=>rw[hc]at l;have:=l none (by simp);cases this
  |cons W js =>
   refine⟨fun q=>?_,fun j v=>?_⟩
   ·have:W∈Region.ready .any ops b:=by rw[c,hc];simp
    rw[q]at this;cases this
   ·have X:=v;rw[c]at v;have z:=(Fl.1 v).1;rw[hc]at l v;have p:∀x∈(match Am.stepE tab fns C tk ops j (erD D)with|some D'=>gl tab fns C tk ops n (rem.erase j) D'|none=>[none]),x=some U:=fun x J=>l x (Eq.2 ⟨j,v,J⟩)
    split at p
    ·rename_i D1 K;refine I.stepE ok hf M K fun D' t w' Y Z e3=>?_
     obtain⟨k1,k2,k3⟩:=wS (by omega) u d z;refine S (rem.erase j) (b.setIfInBounds j true) D' t w' (by omega) (by simp[hs]) k1 k2 (fun i hi q=>?_) e3 (by obtain⟨o,y,q1,rfl⟩:=Z;exact N o (Ef (by simpa using q1)) a y hd) (by rw[Y];exact p);rw[cv]at q;rcases q with⟨q,_⟩|q
     ·have:=(d j).1 z;omega
     ·exact f i hi q
    ·have:=p none (by simp);cases this
open Classical in
noncomputable def runD3 (tab:Tab)(fns:FuncId→Option Func)(C:Sem1)(tk:Nat→Bool)(ops:Array Oper)(m:Nat)(D:US):Option US :=
 if xy ops m=true then
  match gl tab fns C tk ops m (List.range m) D with
  |some U::r=>if k6 r U then runOps tab fns C tk ops (ops.toList.drop m) m U else none
  |_=>none
 else none
theorem Inv.runD3 {P:Program}{tab:Tab}(ok:aK P tab)(v:P.follows .mixedOrders=true){fns:FuncId→Option Func}(hf:dA P fns){B:Base}{C:Sem1}{cx:Cx}(s:da P B C cx){tk:Nat→Bool}{ops:Array Oper}{m:Nat}
  {Q:Exit→Act→World→Prop} {U:US} {T:Act→Prop} (t:∀o∈ops.toList,∀a y,T a→T (a.put o.dst y)) (z:∀D' f w',erD D'=U→T f→Inv cx D' [] f.tmps w'→Q .normal f w') {id:Nat} {D:DSt} {a:Act} {w:World} (I:Inv cx D [] a.tmps w) (hd:T a)
  (e:Am.runD3 tab fns C tk ops m (erD D)=some U):(Code.region id ops true).wp P Q a w:=by
 unfold Am.runD3 at e;split at e
 case isFalse=>cases e
 rename_i h;split at e
 case h_2=>cases e
 rename_i V r A;split at e
 case isFalse=>cases e
 rename_i F;unfold xy at h;simp only[EF,FR,Eo,EW,F3,Fb]at h;obtain⟨⟨G,l⟩,n⟩:=h;have b:∀j i,i∈aQ ops j→i<j:=fun j i hi=>by
  rcases Em j ops.size with g|g
  ·exact l j g i hi
  ·unfold aQ at hi;rw[E9 g]at hi;cases hi
 have d:∀j,m≤j→j<ops.size→∀i,i<j→i∈aQ ops j:=fun j u p i hi=>by
  rcases n j p with q|q
  ·omega
  ·exact q i hi
 refine wp_region_any v ?_;have hz:m+(ops.size-m)=ops.size:=by omega
 have:=vF (Q:=Q) (T:=T) ok hf s hz t b d (tk:=tk) (U:=V) (fun c D' f w' hs H u p J=>by
  have K:(ops.toList.drop m).length=ops.size-m:=by simp
  rw[←K];refine o9 b (ops.toList.drop m) m c f w' hs (fun i=>by rw[E4];simp) H (fun k l n i hi=>.inl (d k l n i hi)) ?_;exact Inv.runOps (tk:=tk) ok hf s z _ m (fun o L=>t o (Fi L)) J p (by rw[u];exact e)) m (List.range m) (Array.replicate ops.size false) D a _ (by simp) (by simp) Gi
  (fun i=>by rw[EW];exact⟨fun q=>⟨q,b4⟩,fun q=>q.1⟩) (fun i _=>b4) I.drewn hd (fun x hx=>by
   rw[A]at hx;rcases ER.1 hx with rfl|hx
   ·rfl
   ·exact k7 F x hx)
 rwa [hz]at this
section
variable  {δ β : Type}
def forgetOne (l:List Nat)(D:St δ β)(t:Nat):St δ β :=
 if l.contains t then D else match D[t]? with|some .any=>D|some _=>aE D (some t) .any|none=>D
def forget (l:List Nat)(D:St δ β):St δ β:=(List.range D.length).foldl (forgetOne l) D
end
theorem sZ (l:List Nat)(D:DSt)(t:Nat):erD (forgetOne l D t)=forgetOne l (erD D) t:=by
 unfold forgetOne;rw[a8];split
 ·rfl
 ·cases D[t]? with
  |none=>rfl
  |some s=>cases s<;>first|rfl|exact bf D (some t) .any
theorem sY (l:List Nat):∀(ts:List Nat)(D:DSt),erD (ts.foldl (forgetOne l) D)=ts.foldl (forgetOne l) (erD D)
 |[],D=>rfl
 |t::ts,D=>by simp only[Fg];rw[sY l ts,sZ]
theorem jS (l:List Nat)(D:DSt):erD (forget l D)=forget l (erD D):=by unfold forget;rw[sY,ch]
theorem Inv.forgetOne {cx:Cx}{D:DSt}{tm:Array Value}{w:World}(I:Inv cx D [] tm w)(l:List Nat)(t:Nat):Inv cx (forgetOne l D t) [] tm w:=by
 unfold Am.forgetOne;split
 ·exact I
 ·split
  ·exact I
  ·rename_i s h;refine I.lose ?_;rcases Em t D.length with g|g
   ·exact g
   ·rw[Ek g]at h;cases h
  ·exact I
theorem Inv.forgetL {cx:Cx}{tm:Array Value}{w:World}(l:List Nat):∀(ts:List Nat){D:DSt},Inv cx D [] tm w→Inv cx (ts.foldl (Am.forgetOne l) D) [] tm w
 |[],D,I=>I
 |t::ts,D,I=>by simp only[Fg];exact Inv.forgetL l ts (I.forgetOne l t)
theorem Inv.forget {cx:Cx}{D:DSt}{tm:Array Value}{w:World}(I:Inv cx D [] tm w)(l:List Nat):Inv cx (forget l D) [] tm w:=Inv.forgetL l _ I
structure ew where
 take:Nat→Nat→Bool:=fun _ _=>false
 keep:Nat→Option (List Nat):=fun _=>none
 head:Nat→Option (List Nat):=fun _=>none
 tail:Nat→Exit→Option (List Nat):=fun _ _=>none
 draw:Nat→Option (Nat×List (List Nat)):=fun _=>none
 late:Nat→Option (List Nat):=fun _=>none
def zr {α:Type}(l:List (List Nat×α)):List (Nat×α):=l.flatMap fun p=>p.1.map fun k=>(k,p.2)
def hdL (l:List (Nat×List Nat))(i:Nat):Option (List Nat):=l.lookup i
def exN:Exit→Option Nat| .exit k=>some (k+1)| .ret=>some 0|_=>none
def tlL (l:List (Nat×List (Nat×List Nat)))(i:Nat)(e:Exit):Option (List Nat):=(exN e).bind fun k=>(l.lookup i).bind fun r=>r.lookup k
def drL (l:List (Nat×Nat×List (List Nat)))(i:Nat):Option (Nat×List (List Nat)):=l.lookup i
def tkL (l:List (Nat×Nat))(r i:Nat):Bool:=l.any fun p=>p.1==r&&p.2==i
noncomputable def runDL (tab:Tab)(fns:FuncId→Option Func)(C:Sem1)(tk:Nat→Bool)(late:Option (List Nat))(ops:Array Oper)(m:Nat)(anc:List (List Nat))(D:US):Option US :=
 match late with
 |some []=>runD3 tab fns C tk ops m D
 |some σ=>runD2 tab fns C tk ops σ m anc D
 |none=>runD tab fns C tk ops m anc D
theorem Inv.runDL {P:Program}{tab:Tab}(ok:aK P tab)(b:P.follows .mixedOrders=true){fns:FuncId→Option Func}(hf:dA P fns){B:Base}{C:Sem1}{cx:Cx}(c:da P B C cx){tk:Nat→Bool}{late:Option (List Nat)}{ops:Array Oper}{m:Nat}{anc:List (List Nat)}
  {Q:Exit→Act→World→Prop} {U:US} {T:Act→Prop} (d:∀o∈ops.toList,∀a y,T a→T (a.put o.dst y)) (f:∀D' g w',erD D'=U→T g→Inv cx D' [] g.tmps w'→Q .normal g w') {id:Nat} {D:DSt} {a:Act} {w:World} (I:Inv cx D [] a.tmps w) (hd:T a)
  (e:Am.runDL tab fns C tk late ops m anc (erD D)=some U):(Code.region id ops true).wp P Q a w:=by
 unfold Am.runDL at e;split at e
 ·exact I.runD3 ok b hf c d f hd e
 ·exact I.runD2 ok b hf c d f hd e
 ·exact I.runD ok b hf c d f hd e
def AX {R:Type}(g:US→Option R)(K:Exit→US→Option R)(e:Exit)(D:US):Option R :=
 match e with| .normal=>g D|e=>K e D
def km {R:Type}(body:US→(Exit→US→Option R)→Option R):Nat→US→(Exit→US→Option R)→Option R| 0,_,_=>none|m+1,D,K=>body D (AX (fun D'=>km body m D' K) K)
def nC:Code→Option Nat
 | .region id _ _=>some id
 | .seq x y=>match nC x with|some i=>some i|none=>nC y
 | .block _ c=>nC c
 |_=>none
def atHead {δ β:Type}(h:ew)(c:Code)(D:St δ β):St δ β :=
 match(nC c).bind h.head with|some l=>forget l D|none=>D
theorem rh (h:ew)(c:Code)(D:DSt):erD (atHead h c D)=atHead h c (erD D):=by
 unfold atHead;split
 ·exact jS _ D
 ·rfl
theorem Inv.atHead {cx:Cx}{D:DSt}{tm:Array Value}{w:World}(I:Inv cx D [] tm w)(h:ew)(c:Code):Inv cx (atHead h c D) [] tm w:=by
 unfold Am.atHead;split
 ·exact I.forget _
 ·exact I
def atTail {δ β:Type}(h:ew)(c:Code)(e:Exit)(D:St δ β):St δ β :=
 match(nC c).bind (h.tail · e)with|some l=>forget l D|none=>D
theorem xO (h:ew)(c:Code)(e:Exit)(D:DSt):erD (atTail h c e D)=atTail h c e (erD D):=by
 unfold atTail;split
 ·exact jS _ D
 ·rfl
theorem Inv.atTail {cx:Cx}{D:DSt}{tm:Array Value}{w:World}(I:Inv cx D [] tm w)(h:ew)(c:Code)(e:Exit):Inv cx (atTail h c e D) [] tm w:=by
 unfold Am.atTail;split
 ·exact I.forget _
 ·exact I
def canon {δ β:Type}(h:ew)(c:Code)(e:Exit)(D:St δ β):St δ β :=
 match e with| .normal=>atHead h c D|e=>atTail h c e D
theorem y7 (h:ew)(c:Code)(e:Exit)(D:DSt):erD (canon h c e D)=canon h c e (erD D):=by
 unfold canon;split
 ·exact rh h c D
 ·exact xO h c _ D
theorem Inv.canon {cx:Cx}{D:DSt}{tm:Array Value}{w:World}(I:Inv cx D [] tm w)(h:ew)(c:Code)(e:Exit):Inv cx (canon h c e D) [] tm w:=by
 unfold Am.canon;split
 ·exact I.atHead h c
 ·exact I.atTail h c _
def l5 (ops:List Oper):Option (List Oper×TypeId×Operand×Nat×Bool):=
 match ops.getLast? with
 |some ⟨some d,.binOp op t x (.const (.slice none 0 0)) _,_,_,_,none⟩=>(match op with| .eql=>some (ops.dropLast,t,x,d,false)| .neq=>some (ops.dropLast,t,x,d,true)|_=>none)
 |_=>none
def kN {δ β:Type}(M:Mk δ β)(tab:Tab)(D:St δ β)(t:TypeId)(x:Operand):Option Nat :=
 match tab.ti t with
 |some ⟨_,_,_,.slice _⟩=>
  match opd M.nil D x with
  |some (.one (.s _ _ _ rows))=>some rows.length
  |_=>none
 |_=>none
open Classical in
noncomputable def lW {R:Type}(D:US)(d:Nat)(a:Bool)(n:Nat)(K:US→Option R):Option R :=
 if n=0 then
  match K (putA D d (.one (.v (.bool (!a)))))with
  |some r=>if K (putA D d (.one (.v (.bool a))))=some r then some r else none
  |none=>none
 else K (putA D d (.one (.v (.bool a))))
noncomputable def cK (tab:Tab)(fns:FuncId→Option Func)(C:Sem1)(h:ew)(n:Nat){R:Type}:Code→US→(Exit→US→Option R)→Option R
 | .skip,D,K=>K .normal D
 | .region id ops draw,D,K =>
  match draw with
  |true=>(match h.draw id with
   |some (m,anc)=>runDL tab fns C (h.take id) (h.late id) ops m anc (match h.keep id with|some l=>forget l D|none=>D)
   |none=>none).bind fun D'=>K .normal D'
  |false =>
   match l5 ops.toList with
   |some (init,t,x,d,b)=>(runOps tab fns C (h.take id) ops init 0 (match h.keep id with|some l=>forget l D|none=>D)).bind fun D' =>
    match kN mkU tab D' t x with
    |some n=>if d<D'.length then lW D' d b n (K .normal)else none
    |none=>none
   |none=>(runOps tab fns C (h.take id) ops ops.toList 0 (match h.keep id with|some l=>forget l D|none=>D)).bind fun D'=>K .normal D'
 | .seq x y,D,K=>cK tab fns C h n x D fun e D'=>match e with| .normal=>cK tab fns C h n y D' K|e=>K e D'
 | .cond c x y,D,K=>match boolOf mkU D c with|some true=>cK tab fns C h n x D K|some false=>cK tab fns C h n y D K|none=>none
 | .block id c,D,K=>cK tab fns C h n c D fun e D'=>match e with| .exit a=>if a=id then K .normal D' else K (.exit a) D'|e=>K e D'
 | .exit id,D,K=>K (.exit id) D
 | .ret,D,K=>K .ret D
 | .loop c,D,K=>km (fun D K=>cK tab fns C h n c D fun e D'=>K e (canon h c e D')) n (atHead h c D) K
 |_,_,_=>none
theorem xW (tab:Tab)(D:DSt)(t:TypeId)(x:Operand):kN mkU tab (erD D) t x=kN mkD tab D t x:=by
 unfold kN;rw[bn];split
 ·cases opd mkD.nil D x with
  |none=>rfl
  |some s =>
   cases s with
   |one u=>cases u<;>simp[Sl.er,T.er,rf]
   |_=>rfl
 ·rfl
theorem tV {ops init:List Oper}{t:TypeId}{x:Operand}{d:Nat}{c:Bool}(h:l5 ops=some (init,t,x,d,c)):
  ∃o:Oper,ops=init++[o]∧o.dst=some d∧o.guard=none∧∃ty,o.op = .binOp (if c then .neq else .eql) t x (.const (.slice none 0 0)) ty:=by
 unfold l5 at h;split at h
 case h_2=>cases h
 rename_i op t' g ty e p q f;have b:=List.getLast?_eq_some_iff.1 f;obtain⟨ys,a⟩:=b;split at h
 ·cases h;exact⟨⟨some d,.binOp .eql t x (.const (.slice none 0 0)) ty,e,p,q,none⟩,by rw[a];simp,rfl,rfl,ty,rfl⟩
 ·cases h;exact⟨⟨some d,.binOp .neq t x (.const (.slice none 0 0)) ty,e,p,q,none⟩,by rw[a];simp,rfl,rfl,ty,rfl⟩
 ·cases h
theorem Ah {P:Program}{t e:TypeId}(c:P.underlying t=some (.slice e))(a:Bool)(ad:Option Addr)(n cap:Nat)(w:World):
  (binOp (if a then .neq else .eql) t (.slice ad n cap) (.slice none 0 0)).run P w = .ok (.bool (if ad.isNone then !a else a)) w:=by
 have f:∀d,(Op.equalIn (d+1) t (.slice ad n cap) (.slice none 0 0)).run P w = .ok ad.isNone w:=fun d=>by unfold Op.equalIn;cases ad<;>simp[run_underlying c]
 have b:(Op.equal t (.slice ad n cap) (.slice none 0 0)).run P w = .ok ad.isNone w:=f 9999;cases a with
 |false =>show(do pure (.bool (←Op.equal t (.slice ad n cap) (.slice none 0 0))):Sem Value).run P w=_;simp[b];cases ad<;>rfl
 |true =>show(do pure (.bool (!(←Op.equal t (.slice ad n cap) (.slice none 0 0)))):Sem Value).run P w=_;simp[b];cases ad<;>rfl
theorem Inv.nilStep {P:Program}{tab:Tab}(ok:aK P tab){ops:Array Oper}{Q:Exit→Act→World→Prop}{cx:Cx}{R:Type}{r:R}{D:DSt}{a:Act}{w:World}(I:Inv cx D [] a.tmps w){t:TypeId}{x:Operand}{n d:Nat}{c:Bool}{K:US→Option R}{o:Oper}
  (f:kN mkU tab (erD D) t x=some n) (hd:d<D.length) (g:∃ty,o.op = .binOp (if c then .neq else .eql) t x (.const (.slice none 0 0)) ty) (h:o.dst=some d) (C:o.guard=none) (e:lW (erD D) d c n K=some r)
  (F:∀A y,K (erD A)=some r→Inv cx A [] (a.put o.dst y).tmps w→Q .normal (a.put o.dst y) w):wpList P ops Q [o] a w:=by
 rw[xW]at f;unfold kN at f;split at f
 case h_2=>cases f
 rename_i sz G O S q;have H:=cU (Tab.ok ok q) rfl;split at f
 case h_2=>cases f
 rename_i k b z rows J;cases f;have B:=I.opd J;have L:a.eval x = .slice b.addr rows.length b.cap:=B.val;obtain⟨ty,g⟩:=g;have i:(execOp a.eval o).run P w = .ok (.value (.bool (if b.addr.isNone then !c else c))) w:=by
  unfold execOp;rw[g];have j:=Ah H c b.addr rows.length b.cap w;have l:a.eval (.const (.slice none 0 0))= .slice none 0 0:=rfl;simp only[L,l];have M:(eqGuard (if c=true then BinOp.neq else BinOp.eql) t x (.const (.slice none 0 0)) (.slice b.addr rows.length b.cap) (.slice none 0 0)).run P w = .ok () w:=by cases c<;>rfl
  simp[j,M]
 have s:∀ β:Bool,K (Am.putA (erD D) d (.one (.v (.bool β))))=some r→(if b.addr.isNone then !c else c)=β→Q .normal (a.put o.dst (.bool (if b.addr.isNone then !c else c))) w:=fun β j l=>by
  refine F (Am.putA D d (.one (.v (.bool β)))) _ ?_ ?_
  ·rw[oy];exact j
  ·rw[h,l];exact I.putA hd (Tells.one_v (.bool β) rfl)
 unfold wpList;rw[Ej (by simp[Region.wanted,C])];refine .inl ?_;unfold Oper.wp;rw[i];show wpList P ops Q [] _ w;unfold wpList;unfold lW at e;split at e
 ·split at e
  case h_2=>cases e
  rename_i U j;split at e
  case isFalse=>cases e
  rename_i l;cases e;cases hb:b.addr.isNone with
  |true=>have:=s (!c) j (by simp[hb]);rwa [hb]at this
  |false=>have:=s c l (by simp[hb]);rwa [hb]at this
 ·rename_i u;have hb:b.addr.isNone=false:=by
   cases m:b.addr with
   |some _=>rfl
   |none =>
    exfalso;have N:=B.mem.1 (.s k b z rows) (by simp[af]);have p:b.nil=true:=by
     unfold Dec.addr at m;split at m
     ·cases m
     ·cases v:b.nil with
      |true=>rfl
      |false=>rw[v]at m;cases m
    exact u (by rw[Holds.nilrows N p];rfl)
  exact s c e (by simp[hb])
def kn:Code→List Oper| .region _ ops _=>ops.toList| .seq x y=>kn x++kn y| .cond _ x y=>kn x++kn y| .block _ c=>kn c| .loop c=>kn c|_=>[]
def zo (a:List Nat)(c:Code):Bool:=a.isEmpty ||(kn c).all fun o=>match o.dst with|some t => !a.contains t|none=>true
theorem fq {P:Program}{tab:Tab}(ok:aK P tab){fns:FuncId→Option Func}(hf:dA P fns){B:Base}{C:Sem1}{cx:Cx}(v:da P B C cx){h:ew}{n:Nat}{R:Type}{T:Act→Prop}{r:R}:
  ∀(c:Code){K:Exit→US→Option R}{Q:Exit→Act→World→Prop},(∀o∈kn c,∀a y,T a→T (a.put o.dst y))→(∀e D' k w',K e (erD D')=some r→T k→Inv cx D' [] k.tmps w'→Q e k w') →
   ∀{D:DSt}{a:Act}{w:World},Inv cx D [] a.tmps w→T a→cK tab fns C h n c (erD D) K=some r→c.wp P Q a w
 | .skip,K,Q,f,b,D,a,w,I,hd,e=>wp_skip (b .normal D a w e hd I)
 | .region id ops draw,K,Q,f,b,D,a,w,I,hd,e=>by
  simp only[cK]at e;cases draw with
  |true =>
   simp only at e;rw[Eh]at e;obtain⟨U,g,s⟩:=e;split at g
   case h_2=>cases g
   rename_i m anc V;have i:∀D1,Inv cx D1 [] a.tmps w→Am.runDL tab fns C (h.take id) (h.late id) ops m anc (erD D1)=some U→(Code.region id ops true).wp P Q a w:=fun D1 H g =>Inv.runDL (tk:=h.take id) (late:=h.late id) ok ok.mixed hf v f (fun D' k w' j p q=>b .normal D' k w' (by rw[j];exact s) p q) H hd g
   split at g
   ·rename_i l N;rw[←jS]at g;exact i _ (I.forget l) g
   ·exact i _ I g
  |false =>
   simp only at e;refine wp_region_list ?_;split at e
   ·rename_i init t x d ng N;rw[Eh]at e;obtain⟨U,g,s⟩:=e;obtain⟨o,u,J,O,L⟩:=tV N;have f:∀F∈init++[o],∀a y,T a→T (a.put F.dst y):=fun F z=>f F (by show F∈ops.toList;rw[u];exact z)
    rw[u];have i:∀D1,Inv cx D1 [] a.tmps w→Am.runOps tab fns C (h.take id) ops init 0 (erD D1)=some U→wpList P ops Q (init++[o]) a w:=fun D1 H g =>
     Inv.runOps2 (tk:=h.take id) ok hf v (fun D' k w' j p q=>by
      subst j;split at s
      case h_2=>cases s
      rename_i n W;rw[ch]at s;split at s
      case isFalse=>cases s
      rename_i S;exact q.nilStep ok W S L J O s (fun X y Y Z=>b .normal X _ _ Y (f o (by simp) k y p) Z)) init 0 (fun F z=>f F (by simp[z])) H hd g
    split at g
    ·rename_i l N;rw[←jS]at g;exact i _ (I.forget l) g
    ·exact i _ I g
   rw[Eh]at e;obtain⟨U,g,s⟩:=e;have i:∀D1,Inv cx D1 [] a.tmps w→Am.runOps tab fns C (h.take id) ops ops.toList 0 (erD D1)=some U→wpList P ops Q ops.toList a w:=fun D1 H g =>Inv.runOps (tk:=h.take id) ok hf v (fun D' k w' j p q=>b .normal D' k w' (by rw[j];exact s) p q) ops.toList 0 f H hd g
   split at g
   ·rename_i l N;rw[←jS]at g;exact i _ (I.forget l) g
   ·exact i _ I g
 | .seq x y,K,Q,f,b,D,a,w,I,hd,e=>by
  simp only[cK]at e;refine wp_seq (fq ok hf v x (fun o u=>f o (EI.2 (.inl u))) (fun G D' k w' j p q=>?_) I hd e);cases G with
  |normal=>exact fq ok hf v y (fun o u=>f o (EI.2 (.inr u))) b q p j
  |_=>exact b _ D' k w' j p q
 | .cond c x y,K,Q,f,b,D,a,w,I,hd,e=>by
  simp only[cK,xP]at e;split at e
  ·rename_i hb;exact wp_cond (I.boolOf hb) (fq ok hf v x (fun o u=>f o (EI.2 (.inl u))) b I hd e)
  ·rename_i hb;exact wp_cond (I.boolOf hb) (fq ok hf v y (fun o u=>f o (EI.2 (.inr u))) b I hd e)
  ·cases e
 | .block id c,K,Q,f,b,D,a,w,I,hd,e=>by
  simp only[cK]at e;refine wp_block (fq ok hf v c f (fun G D' k w' j p q=>?_) I hd e);cases G with
  |exit G4 =>
   simp only[Exit.inBlock];simp only at j;split
   ·rename_i A;rw[Ej A]at j;exact b .normal D' k w' j p q
   ·rename_i A;rw[Eu A]at j;exact b _ D' k w' j p q
  |_=>exact b _ D' k w' j p q
 | .exit id,K,Q,f,b,D,a,w,I,hd,e=>wp_exit (b (.exit id) D a w e hd I)
 | .ret,K,Q,f,b,D,a,w,I,hd,e=>wp_ret (b .ret D a w e hd I)
 | .loop c,K,Q,f,b,D,a,w,I,hd,e=>by
  simp only[cK]at e;refine wp_loop_rounds n ?_;have i:∀(m:Nat){D:DSt}{a:Act}{w:World},Inv cx D [] a.tmps w→T a→km (fun D K=>cK tab fns C h n c D fun e D'=>K e (Am.canon h c e D')) m (erD D) K=some r→Code.rounds P c Q m a w:=by
   intro m;induction m with
   |zero=>intro D a w I hd e;cases e
   |succ m ih =>
    intro D a w I hd e;simp only[km]at e;rw[rounds_succ];refine fq ok hf v c f (fun G D' k w' j p q=>?_) I hd e;rw[←y7]at j;have M:=q.canon h c G;cases G with
    |normal=>exact ih M p j
    |_=>exact b _ _ k w' j p M
  rw[←rh]at e;exact i n (I.atHead h c) hd e
 | .rangeFunc ..,K,Q,f,b,D,a,w,I,hd,e=>by cases e
 | .scope _,K,Q,f,b,D,a,w,I,hd,e=>by cases e
 | .label _,K,Q,f,b,D,a,w,I,hd,e=>by cases e
 | .goto _,K,Q,f,b,D,a,w,I,hd,e=>by cases e
 | .refuse _,K,Q,f,b,D,a,w,I,hd,e=>by cases e
section
variable  {δ β : Type}
def resOne (M:Mk δ β)(tab:Tab)(D:St δ β):ResultVar→Option (Bool×List (T δ)×Nat)
 | .tmp t =>
  match D[t]? with
  |some (.one u)=>some (false,[u],t)
  |some (.agg ts)=>some (true,ts,t)
  |some (.al h c st lo len)=>
   if lo=0∨0<len then
    match am D h c with
    |some u=>if u.isOwn then match getN u st with|some (.s .own d z rows)=>some (false,[.s .own (M.win d lo z) z ((rows.drop lo).take len)],h)|_=>none else none
    |none=>none
   else none
  |_=>none
 | .cell a t =>
  match D[a]?,tab.ti t with
  |some (.box _ ts),some ti=>if ts.length=ti.size∧ti.sh ≠ .other∧(ti.sh.agg=false→ts.length=1)then some (ti.sh.agg,ts,a)else none
  |_,_=>none
def resL (M:Mk δ β)(tab:Tab)(D:St δ β):List ResultVar→Option (List (Bool×List (T δ)×Nat))|[]=>some []|r::rs=>(resOne M tab D r).bind fun x=>(resL M tab D rs).map fun xs=>x::xs
def ownAny (r:Bool×List (T δ)×Nat):Bool:=r.2.1.any T.isOwn
end
abbrev erT (r:Bool×List DT×Nat):Bool×List (T Unit)×Nat:=(r.1,erL r.2.1,r.2.2)
theorem x7 (tab:Tab)(D:DSt)(r:ResultVar):resOne mkU tab (erD D) r=(resOne mkD tab D r).map erT:=by
 cases r with
 |tmp t =>
  simp only[resOne,a8];cases D[t]? with
  |none=>rfl
  |some s =>
   cases s with
   |al h c st lo len =>
    simp only[Ee,Sl.er];split
    ·rw[fe];cases am D h c with
     |none=>rfl
     |some u =>
      simp only[Ee,bP];split
      ·rw[lS];cases getN u st with
       |none=>rfl
       |some n =>
        cases n with
        |s k d z rows =>
         cases k with
         |own=>simp only[Ee,aq,erT];rw[←tf];rfl
         |_=>simp[aq]
        |_=>rfl
      ·rfl
    ·rfl
   |_=>rfl
 |cell a t =>
  simp only[resOne,a8];cases D[a]? with
  |none=>rfl
  |some s =>
   cases s with
   |box b ts =>
    cases tab.ti t with
    |none=>rfl
    |some ti=>simp only[Ee,Sl.er,EJ];split<;>rfl
   |_=>rfl
theorem vQ (tab:Tab)(D:DSt):∀rs,resL mkU tab (erD D) rs=(resL mkD tab D rs).map (List.map erT)
 |[]=>rfl
 |r::rs=>by
  simp only[resL,x7,vQ tab D rs];cases resOne mkD tab D r with
  |none=>rfl
  |some x =>simp only[Ee,Eg];cases resL mkD tab D rs<;>rfl
theorem zX (f:DT→Bool)(g:T Unit→Bool)(h:∀t,g t.er=f t)(ts:List DT):(erL ts).any g=ts.any f:=by simp only[erL,Gm];congr 1;funext t;exact h t
def a7 {δ β:Type}:Nat→List (Sl δ β)→List (Nat×HK)
 |_,[]=>[]
 |k,a::as=>match bE a with|some q=>(k,q)::a7 (k+1) as|none=>a7 (k+1) as
section
variable  {δ β : Type}
def l6 (D:St δ β)(p:Nat×HK):Option (Bool×List (T δ)):=
 match p.2,D[p.1]? with
 | .box,some (.box _ ts)=>some (true,ts)
 | .one,some (.one u)=>some (false,[u])
 | .one,some .any=>some (false,[.any])
 | .agg,some (.agg ts)=>some (true,ts)
 |_,_=>none
def gZ (D:St δ β):List (Nat×HK)→Option (List (Bool×List (T δ)))|[]=>some []|p::a=>(l6 D p).bind fun x=>(gZ D a).map fun xs=>x::xs
def T.holeF:T δ→T δ| .s .far _ _ _=>.any|t=>t
def T.isAny:T δ→Bool| .any=>true|_=>false
def pc (ts:List (T δ)):Bool:=ts.all T.noLent&&((ts.filter T.isFar).isEmpty ||ts.all fun t => !t.isAny)
def kP (M:Mk δ β)(D:St δ β):List ResultVar→Option ((Bool×List (T δ))×Nat)
 |[.tmp t]=>(fH D (.tmp t)).bind fun h=>match D[h]? with|some (.box b ts)=>if pc ts=true∧0<ts.length then some ((false,.s .own (M.ptr b) ts.length [ts.map T.holeF]:: .any::ts.filter T.isFar),h)else none|_=>none
 |_=>none
def mq (M:Mk δ β)(tab:Tab)(D:St δ β)(hs:List (Nat×HK))(rs:List ResultVar):Option (List (Bool×List (T δ))):=
 match kP M D rs with
 |some (r,t)=>(gZ D hs).bind fun os=>if(os.all fun r=>r.2.all T.noLent)=true∧(hs.map (·.1)++[t]).Nodup then some (os++[r])else none
 |none=>(gZ D hs).bind fun os=>(resL M tab D rs).bind fun l =>if(os.all fun r=>r.2.all T.noLent)=true∧(l.all fun r=>r.2.1.all T.noLent)=true∧(hs.map (·.1)++(l.filter ownAny).map (·.2.2)).Nodup then some (os++l.map fun r=>(r.1,r.2.1))else none
end
theorem z4 (s:DSl):bE s.er=bE s:=by
 cases s with
 |one u=>simp only[Sl.er,bE,bP]
 |agg ts =>simp only[Sl.er,bE];rw[show(List.map T.er ts).any T.isOwn=ts.any T.isOwn by rw[Gm];congr 1;funext t;exact bP t]
 |_=>rfl
theorem pR:∀(k:Nat)(ad:List DSl),a7 k (ad.map Sl.er)=a7 k ad
 |_,[]=>rfl
 |k,a::as=>by simp only[EB,a7,z4,pR (k+1) as]
theorem xZ (D:DSt)(p:Nat×HK):l6 (erD D) p=(l6 D p).map fun r=>(r.1,erL r.2):=by
 obtain⟨i,k⟩:=p;simp only[l6,a8];cases D[i]? with
 |none=>cases k<;>rfl
 |some s=>cases s<;>cases k<;>rfl
theorem ta (D:DSt):∀a,gZ (erD D) a=(gZ D a).map erR
 |[]=>rfl
 |p::a=>by
  simp only[gZ,xZ,ta D a];cases l6 D p with
  |none=>rfl
  |some x =>simp only[Ee,Eg];cases gZ D a<;>rfl
def nn {δ β:Type}(M:Mk δ β)(tab:Tab)(D:St δ β)(hs:List (Nat×HK))(rs:List ResultVar):Option (List (Bool×List (T δ))):=
 if(hs.all fun p=>match p.2 with| .one=>true|_=>false)=true then(mq M tab D [] rs).map fun r=>hs.map (fun _=>(false,[.any]))++r else none
theorem z7 (t:DT):t.er.isAny=t.isAny:=by
 cases t with
 |v x=>rfl
 |any=>rfl
 |s k d z r=>rw[aq];rfl
theorem zc (t:DT):t.er.holeF=t.holeF.er:=by
 cases t with
 |v x=>rfl
 |any=>rfl
 |s k d z r=>cases k<;>simp only[T.holeF,aq]<;>rfl
theorem zZ (ts:List DT):pc (erL ts)=pc ts:=by
 unfold pc;have a:(erL ts).all T.noLent=ts.all T.noLent:=cg T.noLent T.noLent cm ts;have b:((erL ts).filter T.isFar).isEmpty=(ts.filter T.isFar).isEmpty:=by
  unfold erL;rw[Gp];have:(T.isFar ∘ T.er:DT→Bool)=T.isFar:=by funext t;exact pg t
  rw[this,List.isEmpty_map]
 have c:((erL ts).all fun t => !t.isAny)=ts.all fun t => !t.isAny:=cg (fun t => !t.isAny) (fun t => !t.isAny) (fun t=>by rw[z7]) ts
 rw[a,b,c]
theorem x6 (D:DSt)(rs:List ResultVar):kP mkU (erD D) rs=(kP mkD D rs).map fun p=>((p.1.1,erL p.1.2),p.2):=by
 unfold kP;split
 ·rename_i t;rw[mu];cases fH D (.tmp t)with
  |none=>rfl
  |some h =>
  simp only[Eg];rw[a8];cases D[h]? with
  |none=>rfl
  |some s =>
   cases s with
   |box b ts =>
    simp only[Ee,Sl.er];rw[show pc (List.map T.er ts)=pc ts from zZ ts,EJ];split
    ·simp only[Ee,erL,EB,E6,aq];have a:(ts.map T.er).map T.holeF=(ts.map T.holeF).map T.er:=by rw[ES,ES];exact EM fun t _=>zc t
     have c:(ts.map T.er).filter T.isFar=(ts.filter T.isFar).map T.er:=by
      rw[Gp];have:(T.isFar ∘ T.er:DT→Bool)=T.isFar:=by funext t;exact pg t
      rw[this]
     rw[a,c];rfl
    ·rfl
   |_=>rfl
 ·rfl
theorem vN (tab:Tab)(D:DSt)(hs:List (Nat×HK))(rs:List ResultVar):mq mkU tab (erD D) hs rs=(mq mkD tab D hs rs).map erR:=by
 unfold mq;rw[ta,vQ,x6];have a:∀os:b6,((erR os).all fun r=>r.2.all T.noLent)=(os.all fun r=>r.2.all T.noLent):=by intro os;unfold erR;rw[Fc];congr 1;funext r;exact cg T.noLent T.noLent cm r.2
 cases b:kP mkD D rs with
 |some p =>
  obtain⟨r,t⟩:=p;simp only[Ee];cases gZ D hs with
  |none=>rfl
  |some os =>
   simp only[Ee,Eg,a];split
   ·simp only[Ee,ms];rfl
   ·rfl
 |none =>
 simp only[GH];cases gZ D hs with
 |none=>rfl
 |some os =>
  simp only[Ee,Eg];cases resL mkD tab D rs with
  |none=>rfl
  |some l =>
   simp only[Ee,Eg];have a:((erR os).all fun r=>r.2.all T.noLent)=(os.all fun r=>r.2.all T.noLent):=by unfold erR;rw[Fc];congr 1;funext r;exact cg T.noLent T.noLent cm r.2
   have c:((l.map erT).all fun r=>r.2.1.all T.noLent)=(l.all fun r=>r.2.1.all T.noLent):=by rw[Fc];congr 1;funext r;exact cg T.noLent T.noLent cm r.2.1
   have d:((l.map erT).filter ownAny).map (·.2.2)=(l.filter ownAny).map (·.2.2):=by
    rw[Gp,ES];have:(ownAny ∘ erT:Bool×List DT×Nat→Bool)=ownAny:=by funext r;exact zX T.isOwn T.isOwn bP r.2.1
    rw[this];rfl
   rw[a,c,d];split
   ·simp only[Ee,ms];congr 2;unfold erR;rw[ES,ES];rfl
   ·rfl
theorem z3 (tab:Tab)(D:DSt)(hs:List (Nat×HK))(rs:List ResultVar):nn mkU tab (erD D) hs rs=(nn mkD tab D hs rs).map erR:=by
 unfold nn;split
 ·rw[vN,E8,E8];congr 1;funext r;simp only[Function.comp,ms];congr 1;unfold erR;rw[ES];rfl
 ·rfl
structure ww (P:Program)(D:DSt)(tm:Array Value)(w:World)(r:ResultVar)(x:Bool×List DT×Nat)(y:Value):Prop where
 run:(match r with| .tmp t=>(pure (tm.getD t undef):Sem Value)| .cell a t=>do loadVar t (←asAddr (tm.getD a undef))).run P w = .ok y w
 part:VPart (x.1,x.2.1) y
 holds:∀t∈x.2.1,Holds w t
 own:∀t∈x.2.1,t.isOwn=true→OwnT w t
 home:∃s,D[x.2.2]?=some s∧∀b,(x.2.1.flatMap ownR).count b≤(ownBl s).count b
theorem Inv.resOne {P:Program}{tab:Tab}(ok:aK P tab){cx:Cx}{D:DSt}{tm:Array Value}{w:World}(I:Inv cx D [] tm w){r:ResultVar}{x:Bool×List DT×Nat}
  (e:resOne mkD tab D r=some x):∃y,ww P D tm w r x y:=by
 cases r with
 |tmp t =>
  simp only[Am.resOne]at e;split at e
  ·rename_i u h;cases e;have hv:=I.val t _ h;have g:=I.mem _ (Ef h);exact⟨_,⟨rfl,⟨u,rfl,hv⟩,fun v f=>g.1 v (by simpa[af]using f),fun v f=>g.2.1 v (by simpa[rootsO]using f),_,h,fun b=>by simp[ownBl]⟩⟩
  ·rename_i ts h;cases e;have hv:=I.val t _ h;have g:=I.mem _ (Ef h);exact⟨_,⟨rfl,hv,g.1,g.2.1,_,h,fun b=>EQ _⟩⟩
  ·rename_i h c st lo len hD;split at e
   case isFalse=>cases e
   rename_i i;split at e
   case h_2=>cases e
   rename_i u j;split at e
   case isFalse=>cases e
   rename_i L;split at e
   case h_2=>cases e
   rename_i d z rows o;cases e;have hv:=I.val t _ hD;obtain⟨Y,Z,n,ad,⟨t1,M,q2,k2,q,N,q4⟩,S,A,l,B⟩:=hv;rw[j]at M;cases M;rw[o]at N;cases N;obtain⟨s,hs,F,U,G,O⟩:=be j;have g:=I.mem s F;have H:=Holds.getN st (g.1 u U) o;have Q:=OwnT.getN st (g.2.1 u G L) o;refine⟨_,⟨rfl,⟨_,rfl,?_⟩,fun v f=>?_,fun v f _=>?_,s,hs,fun b=>?_⟩⟩
   ·rw[A];exact pF (by omega) H.cap Q.sp rfl l B H.nilrows i
   ·simp at f;subst f;exact H.win lo len (by omega)
   ·simp at f;subst f;exact Q.win lo len (by omega)
   ·have R:=kB (k := .own) (k' := .own) (d:=d) (z:=z) rows lo len b;have p:=dY st o b;have h3:(bl u).count b≤(ownBl s).count b:=by
     unfold am at j;simp only[Eh]at j;obtain⟨cs,⟨s',m,J⟩,V⟩:=j;rw[hs]at m;cases m;have h4:=iU J b;have W:=aV ownR (T.any:DT) b cs c u V;have h6:(ownR (T.any:DT)).count b=0:=rfl;have X:ownR u=bl u:=by simp[ownR,L]
     rw[X]at W;omega
    simp only[Ez,FO,EH,ownR,T.isOwn,EV];omega
  ·cases e
 |cell a t =>
  simp only[Am.resOne]at e;split at e
  ·rename_i b ts ti hD K;split at e
   case isFalse=>cases e
   rename_i hc;cases e;have hv:=I.val a _ hD;have g:=I.mem _ (Ef hD);have C:Cells w b.1 b.2 ts:=⟨g.2.2.1,g.1⟩
   obtain⟨y,R,p⟩:=C.load (Tab.ok ok K) hc.2.1 hc.1 hc.2.2;have A:tm.getD a undef = .pointer (some ⟨b.1,b.2,none⟩):=hv;refine⟨y,⟨?_,?_,g.1,g.2.1,_,hD,fun x=>?_⟩⟩
   ·show((do loadVar t (←asAddr (tm.getD a undef))):Sem Value).run P w=_;rw[A];exact R
   ·unfold VPart;simp only;split at p
    ·rename_i l;rw[Ej l];exact p
    ·rename_i l;rw[Eu l];exact p
   ·simp only[ownBl,Fu];omega
  ·cases e
theorem KindR.of {cx:Cx}{D:DSt}{t:DT}(h:t.noLent=true)(b:aS cx D t):KindR cx t:=by
 cases t with
 |v x=>exact .inr ⟨rfl,fun y a=>by simp[bl]at a⟩
 |any=>exact .inr ⟨rfl,fun y a=>by simp[bl]at a⟩
 |s k d z r=>cases k<;>first|exact .inl rfl|exact .inr ⟨rfl,b⟩|cases h
theorem Inv.resKind {cx:Cx}{D:DSt}{tm:Array Value}{w:World}(I:Inv cx D [] tm w){tab:Tab}{r:ResultVar}{x:Bool×List DT×Nat}(e:Am.resOne mkD tab D r=some x):∀t∈x.2.1,t.noLent=true→KindR cx t:=by
 cases r with
 |tmp t =>
  simp only[Am.resOne]at e;split at e
  ·rename_i u h;cases e;exact fun v hv c=>KindR.of c (I.kind _ (Ef h) v (by simpa[af]using hv))
  ·rename_i ts h;cases e;exact fun v hv c=>KindR.of c (I.kind _ (Ef h) v hv)
  ·split at e
   case isFalse=>cases e
   split at e
   case h_2=>cases e
   split at e
   case isFalse=>cases e
   split at e
   case h_2=>cases e
   cases e;intro v hv _;simp only[Er]at hv;subst hv;exact .inl rfl
  ·cases e
 |cell a t =>
  simp only[Am.resOne]at e;split at e
  ·rename_i b ts ti hD d;split at e
   case isFalse=>cases e
   cases e;exact fun v hv c=>KindR.of c (I.kind _ (Ef hD) v hv)
  ·cases e
theorem Inv.resKindL {cx:Cx}{D:DSt}{tm:Array Value}{w:World}(I:Inv cx D [] tm w){tab:Tab}:∀{rs:List ResultVar}{l:List (Bool×List DT×Nat)},Am.resL mkD tab D rs=some l→∀x∈l,∀t∈x.2.1,t.noLent=true→KindR cx t
 |[],l,e,x,hx=>by cases e;cases hx
 |r::rs,l,e,x,hx=>by
  simp only[Am.resL,Eh,Ei]at e;obtain⟨y,a,ys,b,rfl⟩:=e;rcases ER.1 hx with rfl|hx
  ·exact I.resKind a
  ·exact I.resKindL b x hx
def nS (tm:Array Value):ResultVar→Sem Value
 | .tmp t=>pure (tm.getD t undef)
 | .cell a t=>do loadVar t (←asAddr (tm.getD a undef))
theorem Inv.resL {P:Program}{tab:Tab}(ok:aK P tab){cx:Cx}{D:DSt}{tm:Array Value}{w:World}(I:Inv cx D [] tm w):∀{rs:List ResultVar}{l:List (Bool×List DT×Nat)},
  resL mkD tab D rs=some l→∃ys:List Value,ys.length=l.length∧(rs.mapM (nS tm)).run P w = .ok ys w∧∀(i:Nat)(x:Bool×List DT×Nat)(y:Value),l[i]?=some x→ys[i]?=some y→∃r,ww P D tm w r x y
 |[],l,e=>by cases e;exact⟨[],rfl,by simp,fun i x y h=>by simp at h⟩
 |r::rs,l,e=>by
  simp only[Am.resL,Eh,Ei]at e;obtain⟨x,c,xs,d,rfl⟩:=e;obtain⟨y,b⟩:=I.resOne ok c;obtain⟨ys,f,g,j⟩:=Inv.resL ok I d;refine⟨y::ys,by simp[f],?_,fun i k m hi a=>?_⟩
  ·have n:(nS tm r).run P w = .ok y w:=by have:=b.run;cases r<;>exact this
   simp[List.mapM_cons,n,g]
  ·cases i with
   |zero=>simp at hi a;subst hi;subst a;exact⟨r,b⟩
   |succ i=>simp at hi a;exact j i k m hi a
def nT:List Value→Value|[y]=>y|ys=>.tuple ys.toArray
theorem oY {P:Program}(fn:Func)(tm:Array Value)(w:World){ys:List Value}(h:(fn.results.toList.mapM (nS tm)).run P w = .ok ys w):
  (results fn tm).run P w = .ok (nT ys) w:=by
 have e:results fn tm=(do let a ←fn.results.mapM (nS tm);pure (if h:a.size=1 then a[0]else .tuple a)):=by unfold results;congr 1
 rw[e,Array.mapM_eq_mapM_toList];simp only[Sem.run_bind,Sem.run_map,h]
 match ys with
 |[]=>simp[nT]
 |[y]=>simp[nT]
 |y::b::ys=>simp[nT]
theorem qL:∀(l:List (List Nat×Nat))(D:DSt),(l.map (·.2)).Nodup→(∀x∈l,∃s,D[x.2]?=some s∧∀b,x.1.count b≤(ownBl s).count b)→∀b,(l.flatMap (·.1)).count b≤aO D b
 |[],D,_,_,b=>by simp
 |x::l,D,i,h,b=>by
  rw[EB,List.nodup_cons]at i;obtain⟨a,c⟩:=i;obtain⟨s,hs,hc⟩:=h x (by simp);have k:=aV ownBl (Sl.any:DSl) b D x.2 s hs;have m:(ownBl (Sl.any:DSl)).count b=0:=rfl;have n:=qL l (D.set x.2 .any) c (fun y j=>by
   obtain⟨s',d,f⟩:=h y (by simp[j]);have g:x.2≠y.2:=fun e=>a (by rw[e];exact Ex.2 ⟨y,j,rfl⟩)
   exact⟨s',by rw[Es g];exact d,f⟩) b
  have o:=hc b;rw[Ez,ED];unfold aO at *;omega
theorem xj (l:List (Bool×List DT×Nat)):(l.flatMap fun r=>r.2.1.flatMap ownR)=((l.filter ownAny).flatMap fun r=>r.2.1.flatMap ownR):=by
 induction l with
 |nil=>rfl
 |cons y l' b =>
  by_cases a:ownAny y=true
  ·rw[List.filter_cons_of_pos a,Ez,Ez,b]
  ·rw[List.filter_cons_of_neg a,Ez,b];have:y.2.1.flatMap ownR=[]:=by
    rw[Ey];intro t c;refine cD ?_;cases d:t.isOwn with
    |false=>rfl
    |true=>exact absurd (by unfold ownAny;rw[Fw];exact⟨t,c,d⟩) a
   rw[this];rfl
theorem qK {cx:Cx}{D:DSt}{tm:Array Value}{w:World}(I:Inv cx D [] tm w){w0:World}{X:List Nat}{Y:Nat→Prop}:∀(ad:List DSl)(j:List Value)(k:Nat){os:b6},ad.length=j.length →
  (∀(i:Nat)(a:DSl)(y:Value),ad[i]?=some a→j[i]?=some y→AOk w0 X Y a y)→gZ D (a7 k ad)=some os →
  (∀(i:Nat)(a:DSl)(y:Value),ad[i]?=some a→j[i]?=some y→(bE a).isSome=true→tm.getD (k+i) undef=y) →
  OutsOk w ad j os∧(∀r∈os,∃s∈D,∀t∈r.2,t = .any∨t∈rootsO s∧t∈af s)∧(∀p∈a7 k ad,p.1<D.length) ∧
   ∀b,(a6 os).count b+(ad.flatMap cM).count b≤(((a7 k ad).map fun p=>(ownBl (D[p.1]?.getD .any),p.1)).flatMap (·.1)).count b
 |[],j,k,os,_,_,e,_=>by cases e;refine⟨?_,fun r h=>(by cases h),fun p h=>(by cases h),fun b=>by simp[a6]⟩;cases j<;>exact rfl
 |a::as,[],k,os,A,_,_,_=>by simp at A
 |a::as,y::ys,k,os,A,Q,e,R=>by
  have S:=fun {os}=>qK I (w0:=w0) (X:=X) as ys (k+1) (os:=os) (by simpa using A) (fun i B C n v=>Q (i+1) B C (by simpa using n) (by simpa using v))
  have l:∀(i:Nat)(a:DSl)(y:Value),as[i]?=some a→ys[i]?=some y→(bE a).isSome=true→tm.getD (k+1+i) undef=y:=fun i B C n v V=>by rw[show k+1+i=k+(i+1) by omega];exact R (i+1) B C (by simpa using n) (by simpa using v) V
  unfold a7 at e ⊢;cases c:bE a with
  |none =>
   rw[c]at e;obtain⟨F,G,H,J⟩:=S e l;have hb:cM a=[]:=by cases a<;>first|rfl|cases c
   refine⟨?_,G,H,fun b=>?_⟩
   ·unfold OutsOk;rw[c];exact F
   ·rw[Ez,hb,EL];exact J b
  |some q =>
   rw[c]at e;simp only[gZ,Eh,Ei]at e;obtain⟨o,f,K,W,rfl⟩:=e;obtain⟨F,G,H,J⟩:=S W l;have L:tm.getD k undef=y:=R 0 a y rfl rfl (by rw[c];rfl);have m:=Q 0 a y rfl rfl;have M:pD w a y o∧∃s,D[k]?=some s∧(∀t∈o.2,t = .any∨t∈rootsO s∧t∈af s)∧∀b,(o.2.flatMap ownR).count b+(cM a).count b≤(ownBl s).count b:=by
    unfold l6 at f;split at f
    ·rename_i z ts' g hD;cases f;have hb:∃b ts,a = .box b ts:=zu (by rw[c];exact FP some g);obtain⟨b,ts,rfl⟩:=hb;have N:y = .pointer (some ⟨b.1,b.2,none⟩):=m.val D;have v2:tm.getD k undef = .pointer (some ⟨z.1,z.2,none⟩):=I.val k _ hD;rw[L,N]at v2;simp only[Value.pointer.injEq,EY,Addr.mk.injEq]at v2;have O:z=b:=by obtain⟨p1,p2⟩:=b;obtain⟨p3,p4⟩:=z;simp at v2;simp[v2.1,v2.2]
     subst O;have U:=I.mem _ (Ef hD);exact⟨⟨rfl,U.2.2.1,U.2.2.2⟩,_,hD,fun t d=>.inr ⟨d,d⟩,fun x=>by simp only[ownBl,cM,Fu,GJ];omega⟩
    ·rename_i u g hD;cases f;have hb:∃u,a = .one u:=pn (by rw[c];exact FP some g);obtain⟨P,rfl⟩:=hb;have v2:=I.val k _ hD;rw[L]at v2;exact⟨⟨⟨u,rfl,v2⟩,rfl⟩,_,hD,fun t d=>.inr ⟨by simpa[rootsO]using d,by simpa[af]using d⟩,fun x=>by simp[ownBl,cM]⟩
    ·rename_i g hD;cases f;have hb:∃u,a = .one u:=pn (by rw[c];exact FP some g);obtain⟨P,rfl⟩:=hb;have N:VT P y:=m.val D;exact⟨⟨⟨.any,rfl,N.one⟩,rfl⟩,_,hD,fun t d=>.inl (by simpa using d),fun x=>by simp[ownBl,cM,ownR,T.isOwn]⟩
    ·rename_i ts g hD;cases f;have hb:∃u,a = .agg u:=zt (by rw[c];exact FP some g);obtain⟨P,rfl⟩:=hb;have v2:=I.val k _ hD;rw[L]at v2;exact⟨⟨v2,rfl⟩,_,hD,fun t d=>.inr ⟨d,d⟩,fun x=>by simp[ownBl,cM]⟩
    ·cases f
   obtain⟨Z,s,k2,k3,k4⟩:=M;refine⟨?_,fun r hr=>?_,fun p hp=>?_,fun b=>?_⟩
   ·unfold OutsOk;rw[c];exact⟨o,K,rfl,Z,F⟩
   ·rcases ER.1 hr with rfl|hr
    ·exact⟨s,Ef k2,k3⟩
    ·exact G r hr
   ·rcases ER.1 hp with rfl|hp
    ·exact bX k2
    ·exact H p hp
   ·have n:=k4 b;have v:=J b;simp only[a6,Ez,EB,ED,k2,FX]at *;omega
theorem Inv.rootKind {cx:Cx}{D:DSt}{P:List (DT×Value)}{tm:Array Value}{w:World}(I:Inv cx D P tm w){s:DSl}(hs:s∈D){t:DT}(a:t∈rootsO s)(c:t.noLent=true):KindR cx t:=by
 have d:=I.kind s hs;cases s with
 |one u=>exact KindR.of c (d t (by simpa[af,rootsO]using a))
 |agg ts=>exact KindR.of c (d t a)
 |box b ts=>exact KindR.of c (d t a)
 |tup rs=>exact KindR.of c (d t a)
 |_=>simp[rootsO]at a
theorem wZ {t:DT}(h:t.noLent=true):t.holeF.fine=true:=by
 cases t with
 |s k d z r=>cases k<;>first|rfl|cases h
 |_=>rfl
theorem yi {t:DT}:ownR t.holeF=ownR t:=by
 cases t with
 |s k d z r=>cases k<;>rfl
 |_=>rfl
theorem rl:∀{ts:List DT},(ts.filter T.isFar=[]∨∀t∈ts,t.isAny=false)→fillF (ts.map T.holeF) (ts.filter T.isFar)=ts
 |[],_=>rfl
 |t::ts,h=>by
  have c:ts.filter T.isFar=[]∨∀t∈ts,t.isAny=false:=h.imp (fun q=>by rw[Fx]at q;split at q<;>first|cases q|exact q) fun q u g=>q u (by simp[g])
  have a:=rl c;cases hf:t.isFar with
  |true =>
   rw[Fx,Ej hf,EB];have:t.holeF = .any:=by
    cases t with
    |s k d z r=>cases k<;>first|rfl|cases hf
    |_=>cases hf
   rw[this];show t::fillF _ _=_;rw[a]
  |false =>
   rw[Fx,Eu (by rw[hf];exact E5),EB];have e:t.holeF=t:=by
    cases t with
    |s k d z r=>cases k<;>first|rfl|cases hf
    |_=>rfl
   rw[e];rcases h with h|h
   ·have hz:ts.filter T.isFar=[]:=by rw[Fx,Eu (by rw[hf];exact E5)]at h;exact h
    rw[hz]at a ⊢;show t::fillF _ _=_;rw[a]
   ·have i:=h t (by simp);cases b:ts.filter T.isFar with
    |nil =>rw[b]at a;show t::fillF _ _=_;rw[a]
    |cons f fs =>
     rw[b]at a;cases t with
     |any=>cases i
     |v x=>show T.v x::fillF _ _=_;rw[a]
     |s k d z r=>show T.s k d z r::fillF _ _=_;rw[a]
theorem zn {w:World}{t:DT}(h:t.fine=true)(a:t.isOwn=true→OwnT w t):OwnT w t:=by
 cases t with
 |v x=>exact .v x
 |any=>exact .any
 |s k d z r=>cases k<;>first|exact a rfl|cases h
theorem Inv.endPtr {P:Program}{D:DSt}{tm:Array Value}{w0 w:World}{X:List Nat}{Y:Nat→Prop}(I:Inv ⟨w0,X,Y⟩ D [] tm w){ad:List DSl}{W:List Value}(hA:ArgsOk w0 X Y ad W)
  (hT:∀(i:Nat)(a:DSl)(y:Value),ad[i]?=some a→W[i]?=some y→(bE a).isSome=true→tm.getD i undef=y) {fn:Func} {r:Bool×List DT} {t:Nat}
  (l:kP mkD D fn.results.toList=some (r,t)) {os:b6} (h0:gZ D (a7 0 ad)=some os) (G4:(os.all fun r=>r.2.all T.noLent)=true) (G5:((a7 0 ad).map (·.1)++[t]).Nodup):
  ∃v od rd,os++[r]=od++rd∧(results fn tm).run P w = .ok v w∧OutsOk w ad W od∧RetOk w0 X Y w (ad.flatMap cM) od rd v:=by
 unfold kP at l;split at l
 case h_2=>cases l
 rename_i t' G6;rw[Eh]at l;obtain⟨h',A,l⟩:=l;split at l
 case h_2=>cases l
 rename_i b ts hD;split at l
 case isFalse=>cases l
 rename_i hc;cases l;obtain⟨G,H3⟩:=hc;unfold pc at G;rw[EF,F3]at G;have O:∀u∈ts,u.noLent=true:=fun u hu=>Eo.1 G.1 u hu
 have M:Am.fillF (ts.map T.holeF) (ts.filter T.isFar)=ts:=rl (G.2.imp (fun q=>by simpa using q) fun q u hu=>by simpa using Eo.1 q u hu);have C:∀u∈ts.map T.holeF,∃v∈ts,u=v.holeF:=fun u hu=>by obtain⟨v,hv,rfl⟩:=Ex.1 hu;exact⟨v,hv,rfl⟩
 have n:∀u∈ts.map T.holeF,u.fine=true:=fun u hu=>by obtain⟨v,hv,rfl⟩:=C u hu;exact wZ (O v hv)
 have m:∀(v:DT),v.holeF = .any∨v.holeF=v:=fun v=>by
  cases v with
  |s k d z r=>cases k<;>first|exact .inl rfl|exact .inr rfl
  |_=>exact .inr rfl
 obtain⟨o1,o2,o3,o4⟩:=qK I ad W 0 hA.1 hA.2.1 h0 (fun i a y B H q3=>by rw[FI];exact hT i a y B H q3);have hm:=I.mem _ (Ef hD);have hv:tm.getD t' undef = .pointer (some ⟨b.1,b.2,none⟩):=by
  unfold fH at A;simp only at A;split at A
  ·rename_i b' ts' hb;cases A;rw[hD]at hb;cases hb;exact I.val _ _ hD
  ·rename_i h2 hb;cases A;obtain⟨b',ts',k1,k2⟩:=I.val _ _ hb;rw[hD]at k1;cases k1;exact k2
  ·cases A
 have Q:(results fn tm).run P w = .ok (nT [tm.getD t' undef]) w:=oY fn tm w (by rw[G6];simp[List.mapM_cons,nS]);obtain⟨R,S,⟨c,e,f,Z,l2⟩,G7⟩:=hm;have G8:b.2+ts.length≤c.size:=by
  have G9:ts.length-1<ts.length:=by omega
  obtain⟨y,hy,_⟩:=l2 (ts.length-1) ts[ts.length-1] (El G9);rcases Em (b.2+(ts.length-1)) c.size with g|g
  ·omega
  ·rw[E9 g]at hy;cases hy
 have o:∀(i:Nat)(row:List DT),([ts.map T.holeF]:List (List DT))[i]?=some row→i=0∧row=ts.map T.holeF:=by
  intro i row h;cases i with
  |zero=>simp at h;exact⟨rfl,h.symm⟩
  |succ i=>simp at h
 have N:Holds w (.s .own (mkD.ptr b) ts.length [ts.map T.holeF]):=by
  refine .s _ _ _ _ rfl rfl c e f Z (by simp[mkD]) (fun i row h=>by rw[(o i row h).2,EJ]) (fun i row j u J h2=>?_) fun i row j u J h2=>?_
  ·obtain⟨rfl,rfl⟩:=o i row J;rw[Et,Ei]at h2;obtain⟨v,F,rfl⟩:=h2;obtain⟨y,y1,y2⟩:=l2 j v F;refine⟨y,by simpa[mkD]using y1,?_⟩;rcases m v with q|q
   ·rw[q];exact y2.one
   ·rw[q];exact y2
  ·obtain⟨rfl,rfl⟩:=o i row J;obtain⟨v,F,rfl⟩:=C u (Ef h2);rcases m v with q|q
   ·rw[q];exact .any
   ·rw[q];exact R v F
 have U:OwnT w (.s .own (mkD.ptr b) ts.length [ts.map T.holeF]):=by
  obtain⟨lo,hi⟩:=f;refine .s _ _ _ rfl rfl c e lo hi Z (by simp[mkD]) (by simpa[mkD]using G8) (fun x J h2=>G7 c e lo hi Z x J (by simpa[mkD]using h2)) fun i row j u J h2=>?_
  obtain⟨rfl,rfl⟩:=o i row J;have hu:=Ef h2;refine zn (n u hu) fun K=>?_
  obtain⟨v,F,rfl⟩:=C u hu;rcases m v with q|q
  ·rw[q]at K;cases K
  ·rw[q]at K ⊢;exact S v F K
 have H0:(ts.filter T.isFar).flatMap ownR=[]:=Ey.2 fun u hu=>lB (Fl.1 hu).2
 have H1:a6 ([(false,.s .own (mkD.ptr b) ts.length [ts.map T.holeF]:: .any::ts.filter T.isFar)]:b6)=ownBl (.box b ts):=by
  have J:(ts.map T.holeF).flatMap ownR=ts.flatMap ownR:=by rw[FF];congr 1;funext u;exact yi
  simp only[a6,ownBl,Ez,FO,EH,H0];simp only[ownR,T.isOwn,EV,bR,mkD];simp only[Ez,FO,EH,qI n];rw[J];simp
 have V:=qL (((a7 0 ad).map fun p=>(ownBl (D[p.1]?.getD .any),p.1))++[(ownBl (.box b ts),t)]) D
  (by rw[FH,ES];exact G5) (fun x hx=>by
   rcases EI.1 hx with hx|hx
   ·obtain⟨p,hp,rfl⟩:=Ex.1 hx;have:=o3 p hp;exact⟨D[p.1],El this,fun b=>by rw[El this];exact EQ _⟩
   ·rw[Er]at hx;subst hx;exact⟨_,hD,fun b=>EQ _⟩)
 have L:∀x,(a6 (os++[(false,.s .own (mkD.ptr b) ts.length [ts.map T.holeF]:: .any::ts.filter T.isFar)])).count x+(ad.flatMap cM).count x≤aO D x:=by intro x;have B:=V x;have H:=o4 x;rw[Fm,ED]at B;rw[gk,ED,H1];simp only[Ez,FO,EH]at B;omega
 refine⟨_,os,_,rfl,Q,o1,⟨.inr (.inr ⟨_,_,_,_,rfl,hv,Eo.2 fun u hu=>(Fl.1 hu).2,by rw[M];exact⟨c,e,f,Z,l2⟩⟩),?_,?_,?_,?_,?_⟩⟩
 ·intro r hr u hu;rcases EI.1 hr with hr|hr
  ·obtain⟨s,B,H⟩:=o2 r hr;exact(H u hu).elim (fun e=>by subst e;exact KindR.fine rfl) fun q=>I.rootKind B q.1 (Eo.1 (Eo.1 G4 r hr) u hu)
  ·rw[Er]at hr;subst hr;simp only[ER]at hu;rcases hu with rfl|rfl|hu
   ·exact .inl rfl
   ·exact KindR.fine rfl
   ·have hu:=(Fl.1 hu).1;exact KindR.of (O u hu) (I.kind _ (Ef hD) u hu)
 ·intro r hr u hu;rcases EI.1 hr with hr|hr
  ·obtain⟨s,B,H⟩:=o2 r hr;exact(H u hu).elim (fun e=>by subst e;exact .any) fun q=>(I.mem s B).1 u q.2
  ·rw[Er]at hr;subst hr;simp only[ER]at hu;rcases hu with rfl|rfl|hu
   ·exact N
   ·exact .any
   ·exact R u (Fl.1 hu).1
 ·intro r hr u hu K;rcases EI.1 hr with hr|hr
  ·obtain⟨s,B,H⟩:=o2 r hr;exact(H u hu).elim (fun e=>by subst e;cases K) fun q=>(I.mem s B).2.1 u q.1 K
  ·rw[Er]at hr;subst hr;simp only[ER]at hu;rcases hu with rfl|rfl|hu
   ·exact U
   ·cases K
   ·exact S u (Fl.1 hu).1 K
 ·intro x;have B:=L x;have H:=I.once x;omega
 ·intro x hx;have B:=L x;have q3:0<aO D x:=by have:=Ew.2 hx;omega
  exact I.bnd x (by omega)
theorem Inv.ends {P:Program}{tab:Tab}(ok:aK P tab){D:DSt}{tm:Array Value}{w0 w:World}{X:List Nat}{Y:Nat→Prop}(I:Inv ⟨w0,X,Y⟩ D [] tm w){ad:List DSl}{C:List Value}(G:ArgsOk w0 X Y ad C)
  (Q:∀(i:Nat)(a:DSl)(y:Value),ad[i]?=some a→C[i]?=some y→(bE a).isSome=true→tm.getD i undef=y) {fn:Func} {all:b6}
  (e:mq mkD tab D (a7 0 ad) fn.results.toList=some all):∃v od rd,all=od++rd∧(results fn tm).run P w = .ok v w∧OutsOk w ad C od∧RetOk w0 X Y w (ad.flatMap cM) od rd v:=by
 unfold mq at e;split at e
 ·rename_i r t H;rw[Eh]at e;obtain⟨os,J,e⟩:=e;split at e
  case isFalse=>cases e
  rename_i hc;cases e;exact I.endPtr G Q H J hc.1 hc.2
 rw[Eh]at e;obtain⟨os,J,e⟩:=e;rw[Eh]at e;obtain⟨l,R,e⟩:=e;split at e
 case isFalse=>cases e
 rename_i hc;cases e;obtain⟨K,u,L⟩:=hc;obtain⟨W,M,Z,o4⟩:=qK I ad C 0 G.1 G.2.1 J (fun i a y d k F=>by rw[FI];exact Q i a y d k F);obtain⟨ys,S,g2,U⟩:=I.resL ok R;have f:∀x∈l,∃(i:Nat) (y:Value) (r:ResultVar),l[i]?=some x∧ys[i]?=some y∧ww P D tm w r x y:=by
  intro x hx;obtain⟨i,hi⟩:=En hx;have A:i<ys.length:=by rw[S];exact bX hi
  obtain⟨r,hr⟩:=U i x ys[i] hi (El A);exact⟨i,ys[i],r,hi,El A,hr⟩
 have g:∀r∈l.map (fun r=>(r.1,r.2.1)),∃x∈l,r=(x.1,x.2.1):=fun r hr=>by obtain⟨x,hx,rfl⟩:=Ex.1 hr;exact⟨x,hx,rfl⟩
 have z:a6 (l.map fun r=>(r.1,r.2.1))=l.flatMap fun r=>r.2.1.flatMap ownR:=by unfold a6;rw[FF]
 have B:=qL (((a7 0 ad).map fun p=>(ownBl (D[p.1]?.getD .any),p.1))++(l.filter ownAny).map fun r=>(r.2.1.flatMap ownR,r.2.2)) D
  (by rw[FH,ES,ES];exact L) (fun x hx=>by
   rcases EI.1 hx with hx|hx
   ·obtain⟨p,n,rfl⟩:=Ex.1 hx;have:=Z p n;exact⟨D[p.1],El this,fun b=>by rw[El this];exact EQ _⟩
   ·obtain⟨r,hr,rfl⟩:=Ex.1 hx;obtain⟨i,y,N,_,_,c⟩:=f r (Fl.1 hr).1;exact c.home)
 have o:∀b,(a6 (os++l.map fun r=>(r.1,r.2.1))).count b+(ad.flatMap cM).count b≤aO D b:=by
  intro b;have d:=B b;have k:=o4 b;rw[Fm,ED]at d;rw[gk,ED,z,xj];have F:((l.filter ownAny).map fun r=>(r.2.1.flatMap ownR,r.2.2)).flatMap (·.1)=(l.filter ownAny).flatMap fun r=>r.2.1.flatMap ownR:=by rw[FF]
  rw[F]at d;omega
 refine⟨_,os,_,rfl,oY fn tm w g2,W,⟨?_,?_,?_,?_,?_,?_⟩⟩
 ·have n:∀(i:Nat)(r:Bool×List DT)(y:Value),(l.map fun r=>(r.1,r.2.1))[i]?=some r→ys[i]?=some y→VPart r y:=by intro i r y hi hy;rw[Et,Ei]at hi;obtain⟨x,hx,rfl⟩:=hi;obtain⟨N,c⟩:=U i x y hx hy;exact c.part
  match ys,l,S,n with
  |[y],[x],_,n=>exact .inl ⟨_,rfl,n 0 _ y rfl rfl⟩
  |[],[],_,n=>exact .inr (.inl ⟨by simp,⟨#[],rfl,rfl,fun i r v h=>by simp at h⟩⟩)
  |y::V::ys,x::x'::l,m,n =>refine .inr (.inl ⟨by simp,⟨(y::V::ys).toArray,rfl,by simp at m ⊢;omega,fun i r v hi hv=>n i r v hi hv⟩⟩)
  |[],x::l,m,_=>simp at m
  |y::ys,[],m,_=>simp at m
  |[y],x::x'::l,m,_=>simp at m
  |y::V::ys,[x],m,_=>simp at m
 ·intro r hr t j;rcases EI.1 hr with hr|hr
  ·obtain⟨s,d,k⟩:=M r hr;exact(k t j).elim (fun e=>by subst e;exact KindR.fine rfl) fun q=>I.rootKind d q.1 (Eo.1 (Eo.1 K r hr) t j)
  ·obtain⟨x,hx,rfl⟩:=g r hr;exact I.resKindL R x hx t j (Eo.1 (Eo.1 u x hx) t j)
 ·intro r hr t j;rcases EI.1 hr with hr|hr
  ·obtain⟨s,d,k⟩:=M r hr;exact(k t j).elim (fun e=>by subst e;exact .any) fun q=>(I.mem s d).1 t q.2
  ·obtain⟨x,hx,rfl⟩:=g r hr;obtain⟨i,y,N,_,_,c⟩:=f x hx;exact c.holds t j
 ·intro r hr t j O;rcases EI.1 hr with hr|hr
  ·obtain⟨s,d,k⟩:=M r hr;exact(k t j).elim (fun e=>by subst e;cases O) fun q=>(I.mem s d).2.1 t q.1 O
  ·obtain⟨x,hx,rfl⟩:=g r hr;obtain⟨i,y,N,_,_,c⟩:=f x hx;exact c.own t j O
 ·intro b;have d:=o b;have k:=I.once b;omega
 ·intro b hb;have d:=o b;have F:0<aO D b:=by have:=Ew.2 hb;omega
  exact I.bnd b (by omega)
theorem tp {w w0:World}{X:List Nat}{Y:Nat→Prop}:∀(ad:List DSl)(c:List Value)(k:Nat),ad.length=c.length →
  (∀(i:Nat)(a:DSl)(y:Value),ad[i]?=some a→c[i]?=some y→AOk w0 X Y a y)→((a7 k ad).all fun p=>match p.2 with| .one=>true|_=>false)=true →
  OutsOk w ad c ((a7 k ad).map fun _=>(false,[.any]))∧ad.flatMap cM=[]
 |[],c,k,_,_,_=>by refine⟨?_,rfl⟩;cases c<;>exact rfl
 |a::as,[],k,d,_,_=>by simp at d
 |a::as,y::ys,k,d,g,hh=>by
  have h:=tp (w:=w) (w0:=w0) (X:=X) (Y:=Y) as ys (k+1) (by simpa using d) fun i j l m n=>g (i+1) j l (by simpa using m) (by simpa using n)
  unfold a7 at hh ⊢;cases b:bE a with
  |none =>
   rw[b]at hh;obtain⟨e,f⟩:=h hh;have hb:cM a=[]:=by cases a<;>first|rfl|cases b
   refine⟨?_,by rw[Ez,hb,EL];exact f⟩;unfold OutsOk;rw[b];exact e
  |some q =>
   rw[b]at hh;simp only[GL,EF]at hh;obtain⟨e,f⟩:=h hh.2;have o:q = .one:=by have:=hh.1;cases q<;>first|rfl|cases this
   subst o;obtain⟨u,rfl⟩:=pn b;have r:VT u y:=(g 0 _ y rfl rfl).val [];refine⟨?_,by rw[Ez];exact f⟩;unfold OutsOk;rw[b];exact⟨_,_,rfl,⟨⟨.any,rfl,r.one⟩,rfl⟩,e⟩
theorem Inv.endsV {P:Program}{tab:Tab}(ok:aK P tab){D:DSt}{tm:Array Value}{w0 w:World}{X:List Nat}{Y:Nat→Prop}(I:Inv ⟨w0,X,Y⟩ D [] tm w){ad:List DSl}{f:List Value}(k:ArgsOk w0 X Y ad f){fn:Func}{all:b6}
  (e:nn mkD tab D (a7 0 ad) fn.results.toList=some all):∃v od rd,all=od++rd∧(results fn tm).run P w = .ok v w∧OutsOk w ad f od∧RetOk w0 X Y w (ad.flatMap cM) od rd v:=by
 unfold nn at e;split at e
 case isFalse=>cases e
 rename_i d;rw[Ei]at e;obtain⟨r,m,rfl⟩:=e;obtain⟨v,od,rd,rfl,n,o,R⟩:=I.ends ok (ArgsOk.nil w0 X Y) (fun i a y h=>by simp at h) m;have:od=[]:=o;subst this;obtain⟨p,s⟩:=tp (w:=w) ad f 0 k.1 k.2.1 d;refine⟨v,_,rd,by rw[EL],n,p,?_⟩;rw[s];have hz:∀(l:List (Nat×HK)),a6 (l.map fun _=>((false,[T.any]):Bool×List DT))=[]:=by intro l;unfold a6;rw[Ey];intro r hr;obtain⟨_,_,rfl⟩:=Ex.1 hr;rfl
 have hr:∀b,(a6 ((a7 0 ad).map (fun _=>((false,[T.any]):Bool×List DT))++rd)).count b=(a6 rd).count b:=by intro b;rw[gk,hz,EL]
 have g:∀r∈(a7 0 ad).map (fun _=>((false,[T.any]):Bool×List DT))++rd,(∀t∈r.2,t = .any)∨r∈[]++rd:=by
  intro r hr;rcases EI.1 hr with hr|hr
  ·obtain⟨_,_,rfl⟩:=Ex.1 hr;exact .inl fun t c=>by simpa using c
  ·exact .inr (by simpa using hr)
 refine⟨R.val,fun r hr t c=>?_,fun r hr t c=>?_,fun r hr t c j=>?_,fun b=>?_,fun b hb=>?_⟩
 ·rcases g r hr with q|q
  ·rw[q t c];exact KindR.fine rfl
  ·exact R.kind r q t c
 ·rcases g r hr with q|q
  ·rw[q t c];exact .any
  ·exact R.holds r q t c
 ·rcases g r hr with q|q
  ·rw[q t c]at j;cases j
  ·exact R.own r q t c j
 ·rw[hr];have:=R.once b;rw[EL]at this;exact this
 ·refine R.new b ?_;rw[EL];exact Ew.1 (by rw[←hr];exact Ew.2 hb)
def zI (tab:Tab)(gv:Bool)(fn:Func)(hs:List (Nat×HK)):Exit→US→Option URes| .normal,D=>if gv=true then nn mkU tab D hs fn.results.toList else mq mkU tab D hs fn.results.toList| .ret,D=>if gv=true then nn mkU tab D hs fn.results.toList else mq mkU tab D hs fn.results.toList|_,_=>none
noncomputable def kQ (tab:Tab)(fns:FuncId→Option Func)(hints:FuncId→ew)(orc:Sem1→Sem1):Nat→Sem1
 | 0=>fun _ _=>none
 |k+1=>fun f as =>
  match orc (kQ tab fns hints orc k) f as with
  |some r=>some r
  |none =>
   match fns f with
   |some fn =>
    match fn.body with
    |some c=>if(tab.gv.contains f ||zo ((a7 0 as).map (·.1)) c)=true then cK tab fns (kQ tab fns hints orc k) (hints f) k c (as++List.replicate (fn.ntmps-as.length) .any) (zI tab (tab.gv.contains f) fn (a7 0 as))else none
    |none=>none
   |none=>none
theorem Inv.enter {w:World}{X:List Nat}{Y:Nat→Prop}{ad:List DSl}{d:List Value}(h:ArgsOk w X Y ad d)(n:Nat):Inv ⟨w,X,Y⟩ (ad++List.replicate n .any) [] (d.toArray++Array.replicate n undef) w:=by
 obtain⟨l,m,j⟩:=h;have c:∀s∈ad++List.replicate n (.any:DSl),s = .any∨∃(i:Nat) (y:Value),ad[i]?=some s∧d[i]?=some y∧AOk w X Y s y:=by
  intro s hs;rcases EI.1 hs with hs|hs
  ·right;obtain⟨i,hi⟩:=En hs;have a:i<d.length:=by rw[←l];exact bX hi
   exact⟨i,d[i],hi,El a,m i s _ hi (El a)⟩
  ·left;exact Fa hs
 have f:∀b,aO (ad++List.replicate n (.any:DSl)) b=(ad.flatMap ownBl).count b:=by
  intro b;unfold aO;rw[Fm,ED];have:(List.replicate n (.any:DSl)).flatMap ownBl=[]:=by rw[Ey];intro s hs;rw[Fa hs];rfl
  rw[this];rfl
 refine⟨by simp[l],fun t s hs=>?_,fun s hs=>?_,fun s hs=>?_,fun p o=>(by cases o),fun b=>by rw[f,bw];exact j b,fun b hb=>?_,⟨rfl,rfl,rfl,EQ _,fun b _=>rfl⟩⟩
 ·rcases Em t ad.length with g|g
  ·rw[EZ g]at hs;have a:t<d.length:=by omega
   have:=(m t s d[t] hs (El a)).val (ad++List.replicate n .any);have e:(d.toArray++Array.replicate n undef).getD t undef=d[t]:=by rw[ET,F8 (by simpa using a)];simp[a]
   rw[e];exact this
  ·rw[EX g]at hs;have:=Ef hs;rw[Fa this];trivial
 ·rcases c s hs with rfl|⟨i,y,_,_,h⟩
  ·exact⟨fun u k=>by simp[af]at k,fun u k=>by simp[rootsO]at k,trivial⟩
  ·exact h.mem
 ·rcases c s hs with rfl|⟨i,y,_,_,h⟩
  ·exact fun u k=>by simp[af]at k
  ·exact h.kind _
 ·rw[f,bw,Nat.add_zero]at hb;obtain⟨s,hs,hb⟩:=Eq.1 (Ew.1 hb);rcases c s (EI.2 (.inl hs))with rfl|⟨i,y,_,_,h⟩
  ·simp[ownBl]at hb
  ·have:=h.own b hb;exact⟨.inr this.1,this.2⟩
theorem oO:∀(ad:List DSl)(k i:Nat)(a:DSl),ad[i]?=some a→(bE a).isSome=true→k+i∈(a7 k ad).map (·.1)
 |[],k,i,a,h,_=>by simp at h
 |a::as,k,0,c,h,b=>by
  simp at h;subst h;unfold a7;cases d:bE a with
  |none=>rw[d]at b;cases b
  |some q=>simp
 |a::as,k,i+1,c,h,b=>by
  have:=oO as (k+1) i c (by simpa using h) b;unfold a7;rw[show k+(i+1)=k+1+i by omega];cases d:bE a with
  |none=>exact this
  |some q=>exact FS _ this
theorem mG {P:Program}{tab:Tab}(ok:aK P tab){fns:FuncId→Option Func}(hf:dA P fns)(hints:FuncId→ew){orc:Sem1→Sem1}{B:Base}(n:∀C,CallsOk P B C→CallsOk P B (orc C)):∀k,CallsOk P B (kQ tab fns hints orc k)
 | 0=>fun f as rs h=>by cases h
 |k+1=>fun f as rs h w X Y ad d R x p=>by
  simp only[kQ]at h;split at h
  ·rename_i r W;cases h;exact n _ (mG ok hf hints n k) f as _ W w X Y ad d R x p
  ·split at h
   case h_2=>cases h
   rename_i fn z;split at h
   case h_2=>cases h
   rename_i c hc;split at h
   case isFalse=>cases h
   rename_i hfix;obtain⟨Z,p2,p3⟩:=hf f fn z;have hl:as.length=d.length:=by rw[←x,EJ];exact p.1
   have hh:a7 0 as=a7 0 ad:=by rw[←x,pR]
   have A:as++List.replicate (fn.ntmps-as.length) (.any:Sl Unit Unit)=erD (ad++List.replicate (fn.ntmps-d.length) .any):=by rw[hl, ←x];simp[erD,Sl.er]
   rw[A,hh]at h;rw[hh]at hfix;refine calls_of_wp Z hc ?_;have I:=Inv.enter p (fn.ntmps-d.length);have D:d.toArray.size=d.length:=by simp
   have hT:∀o∈kn c,∀(a:Act)(y:Value),(a.defers=[]∧(tab.gv.contains f=false→∀(i:Nat)(s:DSl)(v:Value),ad[i]?=some s→d[i]?=some v→(bE s).isSome=true→a.tmps.getD i undef=v)) →
     ((a.put o.dst y).defers=[]∧(tab.gv.contains f=false→∀(i:Nat)(s:DSl)(v:Value),ad[i]?=some s→d[i]?=some v→(bE s).isSome=true→(a.put o.dst y).tmps.getD i undef=v)):=by
    rintro o n a y ⟨t1,S⟩;refine⟨by unfold Act.put;split<;>exact t1,fun g i s v F q G=>?_⟩;rw[g,Bool.false_or]at hfix;cases hd:o.dst with
    |none=>exact S g i s v F q G
    |some t =>
     have hi:=oO ad 0 i s F G;rw[FI]at hi;have H:t≠i:=by
      rintro rfl;unfold zo at hfix;rw[F3]at hfix;rcases hfix with hfix|hfix
      ·rw[List.isEmpty_iff]at hfix;rw[hfix]at hi;cases hi
      ·have:=Eo.1 hfix o n;rw[hd]at this;simp only[Bool.not_eq_true',List.contains_eq_mem,GF]at this;exact this hi
     show(a.tmps.setIfInBounds t y).getD i undef=v;rw[ET,Gj H, ←ET];exact S g i s v F q G
   have J:∀(i:Nat)(s:DSl)(v:Value),ad[i]?=some s→d[i]?=some v→(bE s).isSome=true→(d.toArray++Array.replicate (fn.ntmps-d.toArray.size) undef).getD i undef=v:=by intro i s v _ q _;have K:=bX q;rw[ET,F8 (by simpa using K)];simp[q]
   refine fq (T:=fun a=>a.defers=[]∧(tab.gv.contains f=false→∀(i:Nat)(s:DSl)(v:Value),ad[i]?=some s→d[i]?=some v→(bE s).isSome=true→a.tmps.getD i undef=v)) (r:=rs) ok hf ⟨mG ok hf hints n k,R⟩ c hT (fun e D' U w' l L j=>?_)
    (a:={ tmps:=d.toArray++Array.replicate (fn.ntmps-d.toArray.size) undef,defers:=[] }) (by rw[D];exact I) ⟨rfl,fun _=>J⟩ h
   have u:(if tab.gv.contains f=true then nn mkU tab (erD D') (a7 0 ad) fn.results.toList else mq mkU tab (erD D') (a7 0 ad) fn.results.toList)=some rs→U.defers=[]∧∃v,(Go.results fn U.tmps).run P w' = .ok v w'∧∃V od rd,Ending.returned v = .returned V∧GrewH X w w'∧erR (od++rd)=rs∧OutsOk w' ad d od∧RetOk w X Y w' (ad.flatMap cM) od rd V:=by
    intro l;split at l
    ·rw[z3]at l;obtain⟨all,m,rfl⟩:=Ei.1 l;obtain⟨v,od,rd,rfl,M,N,O⟩:=j.endsV ok p m;exact⟨L.1,v,M,v,od,rd,rfl,⟨j.frame.os,j.frame.tape,j.frame.output,j.frame.size,fun b hb Q=>j.frame.same b ⟨hb,Q⟩⟩,rfl,N,O⟩
    rename_i g;rw[Bool.not_eq_true]at g;rw[vN]at l;obtain⟨all,m,rfl⟩:=Ei.1 l;obtain⟨v,od,rd,rfl,M,N,O⟩:=j.ends ok p (L.2 g) m;exact⟨L.1,v,M,v,od,rd,rfl,⟨j.frame.os,j.frame.tape,j.frame.output,j.frame.size,fun b hb Q=>j.frame.same b ⟨hb,Q⟩⟩,rfl,N,O⟩
   cases e with
   |normal=>exact u l
   |ret=>exact u l
   |_=>cases l
end Go.Proofs.Ytlhgcolciklecaa.Am
