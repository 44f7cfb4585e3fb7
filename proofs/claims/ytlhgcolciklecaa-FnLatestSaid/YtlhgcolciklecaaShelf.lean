/- Plain laws of texts. -/
import Derived.Lib.SplitLaws
import Derived.Lib.SlicesCompact
import Derived.Lib.ItoaNum
import Derived.Lib.Join
namespace Go.Proofs.Ytlhgcolciklecaa.Am
open Go
set_option linter.unusedVariables false
set_option linter.unusedSimpArgs false
def cj (c:UInt8):List UInt8→List (List UInt8)
 |[]=>[[]]
 |b::l=>if b=c then []::cj c l else(match cj c l with|[]=>[[b]]|x::xs=>(b::x)::xs)
def eN (p:List UInt8):List (List UInt8)→List (List UInt8)|[]=>[p]|x::xs=>(p++x)::xs
theorem jl (c:UInt8)(l:List UInt8):∃x xs,cj c l=x::xs:=by
 cases l with
 |nil=>exact⟨_,_,rfl⟩
 |cons b l =>
  unfold cj;split
  ·exact⟨_,_,rfl⟩
  ·split<;>exact⟨_,_,rfl⟩
theorem sS (c:UInt8)(l:List UInt8):cj c (c::l)=[]::cj c l:=by
 conv=>lhs;unfold cj
 rw[if_pos rfl]
theorem rb {b c:UInt8}(h:b≠c)(l:List UInt8):cj c (b::l)=eN [b] (cj c l):=by
 conv=>lhs;unfold cj
 rw[if_neg h];obtain⟨x,xs,e⟩:=jl c l;rw[e];rfl
theorem mz (l:List (List UInt8))(h:∃x xs,l=x::xs):eN [] l=l:=by obtain⟨x,xs,rfl⟩:=h;rfl
theorem rq (p q:List UInt8)(l:List (List UInt8))(h:∃x xs,l=x::xs):eN p (eN q l)=eN (p++q) l:=by obtain⟨x,xs,rfl⟩:=h;simp[eN]
def tx (s:ByteArray):List UInt8:=s.data.toList
def c9 (l:List UInt8):ByteArray:=⟨l.toArray⟩
theorem we (s:ByteArray):c9 (tx s)=s:=rfl
theorem Ak (l:List UInt8):tx (c9 l)=l:=rfl
theorem AQ {a b:ByteArray}(h:tx a=tx b):a=b:=by rw[←we a, ←we b,h]
theorem jF (s:ByteArray):s.size=(tx s).length:=by rw[ByteArray.size];simp[tx]
def seg (s:List UInt8)(a b:Nat):List UInt8:=(s.take b).drop a
theorem xz (s:ByteArray)(a b:Nat):tx (s.extract a b)=seg (tx s) a b:=by unfold tx seg;rw[ByteArray.data_extract,Array.toList_extract,List.extract_eq_take_drop,List.drop_take]
theorem jJ (s:ByteArray)(a b:Nat):s.extract a b=c9 (seg (tx s) a b):=AQ (xz s a b)
theorem kW (s:List UInt8)(a:Nat):seg s a a=[]:=by unfold seg;simp
theorem ux {s:List UInt8}{a i:Nat}{b:UInt8}(c:a≤i)(h:s[i]?=some b):seg s a (i+1)=seg s a i++[b]:=by
 unfold seg;have hi:i<s.length:=by
  rcases Nat.lt_or_ge i s.length with g|g
  ·exact g
  ·rw[List.getElem?_eq_none g]at h;cases h
 rw[List.take_add_one,h,List.drop_append_of_le_length (by simp;omega)];rfl
theorem wh {s:List UInt8}{a i:Nat}(b:a≤i)(hi:i≤s.length):(seg s a i).isEmpty=decide (a=i):=by
 have:(seg s a i).length=i-a:=by unfold seg;simp;omega
 by_cases h:a=i
 ·subst h;rw[kW];simp
 ·rw[decide_eq_false h];cases q:seg s a i with
  |nil=>rw[q]at this;simp at this;omega
  |cons x l=>rfl
theorem vK (s:ByteArray):s.toList=tx s:=ByteArray.toList_eq s
theorem At (a b:ByteArray):(a.toList==b.toList)=decide (tx a=tx b):=by
 rw[vK,vK];by_cases h:tx a=tx b
 ·rw[h];simp
 ·rw[decide_eq_false h];simpa using h
end Go.Proofs.Ytlhgcolciklecaa.Am
