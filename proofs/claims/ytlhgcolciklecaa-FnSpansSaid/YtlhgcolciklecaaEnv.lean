/- The seat's types and functions. -/
import Derived.Test.YtlhgcolciklecaaAmc
import Derived.Test.YtlhgcolciklecaaProg
import Derived.KernelRfl
import Derived.WalkKit
import Derived.RegionTactic
import Derived.ChangeAlike
import Derived.BigRegion
namespace Go.Proofs.Ytlhgcolciklecaa.Am
open Go
set_option linter.unusedVariables false
set_option linter.unusedSimpArgs false
section
open Go.Proofs
set_option maxRecDepth 100000
set_option maxHeartbeats 4000000 in
theorem wq:rv Try.prog 33 [0,1,2,3,4]:=fun b w=>by
 go_enter Try.func33,Try.ntmps33
 go_wp2
 go_region
 go_wp2
 refine bodyPost_ret (v := .agg #[.pointer (some ⟨b.1,b.2,none⟩),.pointer (some ⟨b.1,b.2+1,none⟩),.pointer (some ⟨b.1,b.2+2,none⟩),.pointer (some ⟨b.1,b.2+3,none⟩),.pointer (some ⟨b.1,b.2+4,none⟩)]) (by simp[results,Try.results33,go_sem]) rfl ⟨rfl,(Grew.alloc _ _).trans (Grew.drew _)⟩
end
section
open Go.Proofs
set_option maxRecDepth 100000
def tab:Tab where
 ts:=yb [([2,3],⟨1,8,[tI (0:Int)],.int .i64⟩),
  ([4],⟨1,1,[tB false],.bool⟩),
  ([5,6,94,95],⟨1,1,[tY (0:Int)],.int .u8⟩),
  ([7,8],⟨4,24,[tI (0:Int),tI (0:Int),tB false,tY (0:Int)],.struct [0,1,2,3]⟩),
  ([9,10,11],⟨1,16,[tS ByteArray.empty],.str⟩),
  ([12,61],⟨1,8,[.v (.int .u64 0)],.int .u64⟩),
  ([13,14],⟨2,24,[tS ByteArray.empty,.v (.int .u64 0)],.struct [0,1]⟩),
  ([21,98,99],⟨1,4,[.v (.int .i32 0)],.int .i32⟩),
  ([22],⟨1,24,[.s .own () 1 []],.slice 5⟩),
  ([24],⟨1,24,[.s .own () 1 []],.slice 3⟩),
  ([25,26],⟨5,120,[.s .own () 1 [],.s .own () 1 [],.s .own () 1 [],.s .own () 1 [],.s .own () 1 []],.struct [0,1,2,3,4]⟩),
  ([30],⟨1,24,[.s .own () 2 []],.slice 34⟩),
  ([33,34],⟨2,16,[tI (0:Int),tI (0:Int)],.struct [0,1]⟩),
  ([52],⟨1,24,[.s .own () 1 []],.slice 9⟩),
  ([55],⟨1,24,[.s .own () 1 []],.slice 4⟩),
  ([58,59],⟨3,40,[.s .own () 1 [],tI (0:Int),tI (0:Int)],.struct [0,1,2]⟩),
  ([68,69],⟨5,40,[tI (0:Int),tI (0:Int),tI (0:Int),tI (0:Int),tI (0:Int)],.struct [0,1,2,3,4]⟩),
  ([93],⟨1,4,[.v (.int .u32 0)],.int .u32⟩)]
 eqs:=yb [([33,34],[(0,3),(1,3)]),
  ([68,69],[(0,3),(1,3),(2,3),(3,3),(4,3)])]
 pls:=yb [([7,8],[(0,1),(1,1),(2,1),(3,1)]),
  ([13,14,33,34],[(0,1),(1,1)]),
  ([25,26,68,69],[(0,1),(1,1),(2,1),(3,1),(4,1)]),
  ([58,59],[(0,1),(1,1),(2,1)])]
 io:=[(19,0),(20,0),(21,0),(24,4),(32,0),(43,0)]
 gv:=[24]
 addr:=[(33,[0,1,2,3,4])]
 ars:=[(63,5)]
 pw:=[(19,[3]),(20,[3,0]),(21,[3]),(32,[3,0,0]),(33,[5]),(43,[3,0])]
def zD:List Nat:=[3,5,6,7,8,9,10,11,12,13,14,18,19,20,21,22,23,24,25,26,27,28,29,32,33,34,35,36,37,38,39,40,43,44,45,46,47,48,49,51,52,53,54,55,57]
def hints:FuncId→dZ| 3=>{ take:=tkL [(3,2),(3,6),(4,2),(6,4),(9,1),(18,0),(18,5),(19,3),(25,0),(25,4),(26,0),(26,2),(26,26)],draw:=drL [(15,39,[[],[],[1],BM 3,BM 4,BM 5,BM 6,BM 7,BM 8,BM 9,BM 10,BM 10,[0,1,2,3,4,5,6,7,8,9,11],BM 13,BM 14,BM 15,BM 16,BM 17,BM 16,BM 19,BM 20,BM 21,BM 22,BM 23,BM 22,BM 25,BM 26,BM 27,BM 28,BM 29,BM 30,BM 31,BM 31,[0,1,2,3,4,5,6,7,8,9,10,11,12,13,14,15,16,17,18,19,20,21,22,23,24,25,26,27,28,29,30,32],BM 34,BM 35,BM 36,BM 31,[0,1,2,3,4,5,6,7,8,9,10,11,12,13,14,15,16,17,18,19,20,21,22,23,24,25,26,27,28,29,30,37],BM 39,BM 40,BM 41])],head:=hdL [(11,[3,4,5,6,7,8,9]),(21,[3,4,6,7,8,13,14])],tail:=tlL [(11,[(1,[3,4,6,7,8]),(0,[2])]),(21,[(3,[3,4,6,7,8,13]),(0,[2])])] }| 6=>{ take:=tkL [(2,4)] }| 7=>{ take:=tkL [(3,1),(7,0),(7,5),(8,0),(8,1)],head:=hdL [(5,[3,4,5,7])],tail:=tlL [(5,[(1,[4]),(0,[2])])] }| 8=>{ take:=tkL [(3,6)] }| 9=>{ draw:=drL [(6,8,[[],[],[0,1],BM 3,[],[],[4,5],[4,5,6],BM 8])],head:=hdL [(4,[0,1,5])],tail:=tlL [(4,[(1,[]),(0,[4])])] }| 10=>{ take:=tkL [(1,1),(4,4),(4,6)] }| 11=>{ draw:=drL [(16,14,[[],[0],[],[2],[],[2,3,4],[2,3,4,5],[2,3,4,5,6],BM 8,[],[9],[],[9,10,11],[9,10,11,12],BM 14,BM 15])],head:=hdL [(7,[1,2,3,8,9]),(11,[1,2,3,8,9,10]),(14,[1,2,3,8,9,10,11])],tail:=tlL [(7,[(1,[]),(0,[6,7])]),(11,[(1,[]),(2,[1,2,3,8,9]),(3,[1,2,3,8,9]),(0,[6,7])]),(14,[(1,[]),(2,[1,2,3,8,9]),(3,[1,2,3,8,9]),(4,[1,2,3,8,9,10]),(5,[1,2,3,8,9,10]),(0,[6,7])])] }| 13=>{ take:=tkL [(6,0),(6,4),(8,0),(8,1)],head:=hdL [(3,[1,5,8,9,10])],tail:=tlL [(3,[(1,[5]),(0,[4])])] }| 14=>{ head:=hdL [(2,[0,1,5])],tail:=tlL [(2,[(1,[]),(0,[4])])] }| 18=>{ head:=hdL [(3,[0,3,4])],tail:=tlL [(3,[(1,[0,3]),(0,[2])])] }| 19=>{ take:=tkL [(1,10),(1,11)] }| 21=>{ draw:=drL [(2,10,[[],[0],[0,1],BM 3,BM 4,[],[5],[5,6],[5,6,7],[5,6,7,8],BM 10,BM 11,BM 12]),(3,9,[[],[0],[0,1],BM 3,[],[4],[4,5],[4,5,6],[4,5,6,7],BM 9]),(4,12,[[],[],[1],[1,2],[1,2,3],[],[5],[5,6],[5,6,7],[1,2,3,4,5,6,7,8],[1,2,3,4,5,6,7,8,9],[1,2,3,4,5,6,7,8,9,10],BM 12,BM 13,BM 14])] }| 22=>{ head:=hdL [(2,[1,10,11]),(7,[1,5,6,7,10,11,23,24,25])],tail:=tlL [(2,[(1,[]),(0,[2])]),(7,[(1,[]),(2,[10,11]),(3,[1,7,10,11]),(0,[2])])] }| 23=>{ take:=tkL [(6,0),(6,6),(8,0),(8,1)],head:=hdL [(3,[2,3,4,9,10,11])],tail:=tlL [(3,[(1,[9]),(0,[8])])] }| 24=>{ take:=tkL [(5,0),(5,1),(6,0),(6,6),(8,0),(8,1)],head:=hdL [(2,[2,3,4,5,11,12])],tail:=tlL [(2,[(1,[4]),(0,[10])])] }| 27=>{ draw:=drL [(3,4,[[],[0],[],[2],BM 4,BM 5])] }| 28=>{ head:=hdL [(2,[0,1,5])],tail:=tlL [(2,[(1,[]),(0,[4])])] }| 32=>{ take:=tkL [(1,1),(6,0),(6,4),(7,0),(7,1),(12,0),(12,4),(14,0),(15,0),(15,1)],head:=hdL [(4,[0,2,7,8]),(10,[0,2,7,9,10])],tail:=tlL [(4,[(1,[0,7]),(0,[0,6])]),(10,[(3,[0,7]),(0,[0,6])])] }| 33=>{ draw:=drL [(1,15,[[],[0],[0,1],[],[3],[3,4],[],[6],[6,7],[],[9],[9,10],[],[12],[12,13],BM 15,BM 16])] }| 36=>{ head:=hdL [(2,[1,2,3,8])],tail:=tlL [(2,[(1,[]),(0,[6,7])])] }| 37=>{ draw:=drL [(4,21,[[],[],[0,1],BM 3,[],[],BM 6,BM 7,BM 8,BM 9,BM 10,BM 11,BM 12,BM 12,[0,1,2,3,4,5,6,7,8,9,10,11,13],BM 15,BM 16,BM 12,BM 12,[0,1,2,3,4,5,6,7,8,9,10,11,17,18],[0,1,2,3,4,5,6,7,8,9,10,11,17,18,19],BM 21,BM 22,BM 23])],head:=hdL [(2,[0,1,2,7])],tail:=tlL [(2,[(1,[0]),(0,[6])])] }| 38=>{ head:=hdL [(5,[0,2,4,5]),(9,[0,2,4,5,6])],tail:=tlL [(5,[(1,[0,2,4,5]),(0,[2,3])]),(9,[(3,[0,2,4,5,6]),(0,[2,3])])] }| 40=>{ head:=hdL [(2,[0,1,7,8])],tail:=tlL [(2,[(1,[]),(0,[4])])] }| 45=>{ head:=hdL [(5,[2,4,6]),(8,[2,4,6])],tail:=tlL [(5,[(1,[2,4,6]),(0,[2,3])]),(8,[(3,[2,4,6]),(0,[2,3])])] }| 46=>{ draw:=drL [(3,9,[[],[0],[],[2],BM 4,[],[5],[],[0,1,2,3,4,7],BM 9,BM 10,BM 11])] }| 47=>{ head:=hdL [(3,[1,2,6,17,18,19]),(6,[1,2,6,8,17,18,19,24,25,26])],tail:=tlL [(3,[(1,[]),(0,[4,5])]),(6,[(1,[]),(2,[1,2,6,17,18,19]),(3,[1,2,6,17,18,19]),(0,[4,5])])] }| 49=>{ take:=tkL [(1,1),(6,0)] }|_=>{}
theorem y6 {α:Type}{p:α→Prop}:∀x∈([]:List α),p x:=fun x h=>by cases h
theorem yD {α:Type}{p:α→Prop}{a:α}{l:List α}(h:p a)(t:∀x∈l,p x):∀x∈a::l,p x:=fun x hx=>by
 rcases Cu.1 hx with rfl|hx
 ·exact h
 ·exact t x hx
theorem zy:∀p∈tab.ts,fN Try.prog p.1=some p.2:=DM.1 (by kernel_rfl)
theorem za:∀p∈tab.eqs,vl Try.prog p.1=some p.2:=DM.1 (by kernel_rfl)
theorem zm:∀p∈tab.pls,gK Try.prog p.1=some p.2:=DM.1 (by kernel_rfl)
theorem y9:∀p∈tab.ars,xG Try.prog p.1=some p.2:=DM.1 (by kernel_rfl)
theorem yC:∀p∈tab.addr,rv Try.prog p.1 p.2:=yD wq (y6)
theorem zp:aE Try.prog tab:=⟨zy,za,zm,by kernel_rfl,y9,yC⟩
noncomputable def fns:FuncId→Option Func:=vH Try.prog zD
theorem zf:dl Try.prog fns:=ya (by kernel_rfl)
def orc:Sem1→Sem1:=fun _ _ _=>none
theorem zl:∀C,CallsOk Try.prog B0 C→CallsOk Try.prog B0 (orc C):=fun _ _ f _ rs h=>by cases h
noncomputable def E:Env:=⟨tab,fns,hints,orc⟩
theorem zH {f:FuncId}{xs:List (Sl Unit Unit)}{x:Value}(h:Does E f xs [(false,[.v x])]){w:World}{ad:List DSl}{a:List Value}(b:ad.map Sl.er=xs)(c:ArgsIn w ad a):
  Calls Try.prog f a.toArray w fun e w'=>e = .returned x∧RowKit.Below w.heap.size w w':=Does.plain zp zf zl h (B0.ok _ _) b c
end
end Go.Proofs.Ytlhgcolciklecaa.Am
