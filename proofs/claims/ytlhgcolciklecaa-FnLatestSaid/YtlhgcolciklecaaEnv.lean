/- The seat's types and functions. -/
import Derived.Test.YtlhgcolciklecaaAmc
import Derived.Test.YtlhgcolciklecaaProg
import Derived.KernelRfl
import Derived.WalkKit
import Derived.RegionTactic
import Derived.ChangeAlike
import Derived.BigRegion
namespace Go.Proofs.Ytlhgcolciklecaa.Am
open Go
set_option linter.unusedVariables false
set_option linter.unusedSimpArgs false
section
open Go.Proofs
set_option maxRecDepth 100000
set_option maxHeartbeats 4000000 in
theorem xF:sD Try.prog 33 [0,1,2,3,4]:=fun b w=>by
 go_enter Try.func33,Try.ntmps33
 go_wp2
 go_region
 go_wp2
 refine bodyPost_ret (v := .agg #[.pointer (some ⟨b.1,b.2,none⟩),.pointer (some ⟨b.1,b.2+1,none⟩),.pointer (some ⟨b.1,b.2+2,none⟩),.pointer (some ⟨b.1,b.2+3,none⟩),.pointer (some ⟨b.1,b.2+4,none⟩)]) (by simp[results,Try.results33,go_sem]) rfl ⟨rfl,(Grew.alloc _ _).trans (Grew.drew _)⟩
end
section
open Go.Proofs
set_option maxRecDepth 100000
def tab:Tab where
 ts:=zr [([2,3],⟨1,8,[tI (0:Int)],.int .i64⟩),
  ([4],⟨1,1,[tB false],.bool⟩),
  ([5,6,94,95],⟨1,1,[tY (0:Int)],.int .u8⟩),
  ([7,8],⟨4,24,[tI (0:Int),tI (0:Int),tB false,tY (0:Int)],.struct [0,1,2,3]⟩),
  ([9,10,11],⟨1,16,[tS ByteArray.empty],.str⟩),
  ([12,61],⟨1,8,[.v (.int .u64 0)],.int .u64⟩),
  ([13,14],⟨2,24,[tS ByteArray.empty,.v (.int .u64 0)],.struct [0,1]⟩),
  ([21,98,99],⟨1,4,[.v (.int .i32 0)],.int .i32⟩),
  ([22],⟨1,24,[.s .own () 1 []],.slice 5⟩),
  ([24],⟨1,24,[.s .own () 1 []],.slice 3⟩),
  ([25,26],⟨5,120,[.s .own () 1 [],.s .own () 1 [],.s .own () 1 [],.s .own () 1 [],.s .own () 1 []],.struct [0,1,2,3,4]⟩),
  ([30],⟨1,24,[.s .own () 2 []],.slice 34⟩),
  ([33,34],⟨2,16,[tI (0:Int),tI (0:Int)],.struct [0,1]⟩),
  ([52],⟨1,24,[.s .own () 1 []],.slice 9⟩),
  ([55],⟨1,24,[.s .own () 1 []],.slice 4⟩),
  ([58,59],⟨3,40,[.s .own () 1 [],tI (0:Int),tI (0:Int)],.struct [0,1,2]⟩),
  ([68,69],⟨5,40,[tI (0:Int),tI (0:Int),tI (0:Int),tI (0:Int),tI (0:Int)],.struct [0,1,2,3,4]⟩),
  ([93],⟨1,4,[.v (.int .u32 0)],.int .u32⟩)]
 eqs:=zr [([33,34],[(0,3),(1,3)]),
  ([68,69],[(0,3),(1,3),(2,3),(3,3),(4,3)])]
 pls:=zr [([7,8],[(0,1),(1,1),(2,1),(3,1)]),
  ([13,14,33,34],[(0,1),(1,1)]),
  ([25,26,68,69],[(0,1),(1,1),(2,1),(3,1),(4,1)]),
  ([58,59],[(0,1),(1,1),(2,1)])]
 io:=[(19,0),(20,0),(21,0),(24,4),(32,0),(43,0)]
 gv:=[24]
 addr:=[(33,[0,1,2,3,4])]
 ars:=[(63,5)]
 pw:=[(19,[3]),(20,[3,0]),(21,[3]),(32,[3,0,0]),(33,[5]),(43,[3,0])]
def A2:List Nat:=[3,4,5,6,7,8,9,10,11,12,13,14,15,16,17,18,19,20,21,22,23,24,25,26,27,28,29,30,31,32,33,34,35,36,37,38,39,40,41,42,43,44,45,46,47,48,49,50,51,52,53,54,55,56,57,58]
def hints:FuncId→ew| 3=>{ draw:=drL [(15,39,[[],[],[1],Eb 3,Eb 4,Eb 5,Eb 6,Eb 7,Eb 8,Eb 9,Eb 10,Eb 10,[0,1,2,3,4,5,6,7,8,9,11],Eb 13,Eb 14,Eb 15,Eb 16,Eb 17,Eb 16,Eb 19,Eb 20,Eb 21,Eb 22,Eb 23,Eb 22,Eb 25,Eb 26,Eb 27,Eb 28,Eb 29,Eb 30,Eb 31,Eb 31,[0,1,2,3,4,5,6,7,8,9,10,11,12,13,14,15,16,17,18,19,20,21,22,23,24,25,26,27,28,29,30,32],Eb 34,Eb 35,Eb 36,Eb 31,[0,1,2,3,4,5,6,7,8,9,10,11,12,13,14,15,16,17,18,19,20,21,22,23,24,25,26,27,28,29,30,37],Eb 39,Eb 40,Eb 41])],head:=hdL [(11,[3,4,5,6,7,8,9]),(21,[3,4,6,7,8,13,14])],tail:=tlL [(11,[(1,[3,4,6,7,8]),(0,[2])]),(21,[(3,[3,4,6,7,8,13]),(0,[2])])] }| 4=>{ take:=tkL [(3,2),(3,6),(4,1),(4,5),(11,4)],draw:=drL [(14,15,[[],[0],[0,1],Eb 3,Eb 4,Eb 5,Eb 6,Eb 7,Eb 8,Eb 8,[0,1,2,3,4,5,6,7,9],[0,1,2,3,4,5,6,7,9,10],Eb 12,Eb 13,Eb 8,Eb 15,Eb 16,Eb 17])] }| 6=>{ take:=tkL [(2,4)] }| 7=>{ take:=tkL [(3,1),(7,0),(7,5),(8,0),(8,1)],head:=hdL [(5,[3,4,5,7])],tail:=tlL [(5,[(1,[4]),(0,[2])])] }| 8=>{ take:=tkL [(3,6)] }| 9=>{ draw:=drL [(6,8,[[],[],[0,1],Eb 3,[],[],[4,5],[4,5,6],Eb 8])],head:=hdL [(4,[0,1,5])],tail:=tlL [(4,[(1,[]),(0,[4])])] }| 10=>{ take:=tkL [(1,1),(4,4),(4,6)] }| 11=>{ draw:=drL [(16,14,[[],[0],[],[2],[],[2,3,4],[2,3,4,5],[2,3,4,5,6],Eb 8,[],[9],[],[9,10,11],[9,10,11,12],Eb 14,Eb 15])],head:=hdL [(7,[1,2,3,8,9]),(11,[1,2,3,8,9,10]),(14,[1,2,3,8,9,10,11])],tail:=tlL [(7,[(1,[]),(0,[6,7])]),(11,[(1,[]),(2,[1,2,3,8,9]),(3,[1,2,3,8,9]),(0,[6,7])]),(14,[(1,[]),(2,[1,2,3,8,9]),(3,[1,2,3,8,9]),(4,[1,2,3,8,9,10]),(5,[1,2,3,8,9,10]),(0,[6,7])])] }| 13=>{ take:=tkL [(6,0),(6,4),(8,0),(8,1)],head:=hdL [(3,[1,5,8,9,10])],tail:=tlL [(3,[(1,[5]),(0,[4])])] }| 14=>{ head:=hdL [(2,[0,1,5])],tail:=tlL [(2,[(1,[]),(0,[4])])] }| 15=>{ take:=tkL [(1,2),(1,5),(3,1),(4,2),(5,1),(6,5),(6,9),(7,5),(7,9),(8,5),(8,9),(9,5),(9,9),(10,1),(10,5),(10,9),(15,1),(16,0),(16,1)],head:=hdL [(12,[2,6,7,8])],tail:=tlL [(12,[(1,[2,6]),(0,[2,3])])] }| 16=>{ take:=tkL [(3,4)] }| 17=>{ take:=tkL [(1,5)] }| 18=>{ head:=hdL [(3,[0,3,4])],tail:=tlL [(3,[(1,[0,3]),(0,[2])])] }| 19=>{ take:=tkL [(1,10),(1,11)] }| 21=>{ draw:=drL [(2,10,[[],[0],[0,1],Eb 3,Eb 4,[],[5],[5,6],[5,6,7],[5,6,7,8],Eb 10,Eb 11,Eb 12]),(3,9,[[],[0],[0,1],Eb 3,[],[4],[4,5],[4,5,6],[4,5,6,7],Eb 9]),(4,12,[[],[],[1],[1,2],[1,2,3],[],[5],[5,6],[5,6,7],[1,2,3,4,5,6,7,8],[1,2,3,4,5,6,7,8,9],[1,2,3,4,5,6,7,8,9,10],Eb 12,Eb 13,Eb 14])] }| 22=>{ head:=hdL [(2,[1,10,11]),(7,[1,5,6,7,10,11,23,24,25])],tail:=tlL [(2,[(1,[]),(0,[2])]),(7,[(1,[]),(2,[10,11]),(3,[1,7,10,11]),(0,[2])])] }| 23=>{ take:=tkL [(6,0),(6,6),(8,0),(8,1)],head:=hdL [(3,[2,3,4,9,10,11])],tail:=tlL [(3,[(1,[9]),(0,[8])])] }| 24=>{ take:=tkL [(5,0),(5,1),(6,0),(6,6),(8,0),(8,1)],head:=hdL [(2,[2,3,4,5,11,12])],tail:=tlL [(2,[(1,[4]),(0,[10])])] }| 27=>{ draw:=drL [(3,4,[[],[0],[],[2],Eb 4,Eb 5])] }| 28=>{ head:=hdL [(2,[0,1,5])],tail:=tlL [(2,[(1,[]),(0,[4])])] }| 30=>{ take:=tkL [(1,1),(3,0),(3,1),(9,1),(12,0),(12,7),(15,1),(16,0),(16,1)],head:=hdL [(6,[0,4,5,6])],tail:=tlL [(6,[(1,[4]),(0,[2,3])])] }| 31=>{ take:=tkL [(1,3),(2,2),(8,1),(13,1),(18,0),(18,4),(19,0),(19,1)],head:=hdL [(4,[1,2,8,9,10]),(10,[1,2,8,9,10,12,13,15]),(15,[2,8,16,17])],tail:=tlL [(4,[(1,[1,2,8]),(0,[6,7])]),(10,[(1,[1,2,8]),(2,[1,2,8,9,10]),(3,[1,2,8,9,10]),(0,[6,7])]),(15,[(5,[16]),(0,[6,7])])] }| 32=>{ take:=tkL [(1,1),(6,0),(6,4),(7,0),(7,1),(12,0),(12,4),(14,0),(15,0),(15,1)],head:=hdL [(4,[0,2,7,8]),(10,[0,2,7,9,10])],tail:=tlL [(4,[(1,[0,7]),(0,[0,6])]),(10,[(3,[0,7]),(0,[0,6])])] }| 33=>{ draw:=drL [(1,15,[[],[0],[0,1],[],[3],[3,4],[],[6],[6,7],[],[9],[9,10],[],[12],[12,13],Eb 15,Eb 16])] }| 36=>{ head:=hdL [(2,[1,2,3,8])],tail:=tlL [(2,[(1,[]),(0,[6,7])])] }| 37=>{ draw:=drL [(4,21,[[],[],[0,1],Eb 3,[],[],Eb 6,Eb 7,Eb 8,Eb 9,Eb 10,Eb 11,Eb 12,Eb 12,[0,1,2,3,4,5,6,7,8,9,10,11,13],Eb 15,Eb 16,Eb 12,Eb 12,[0,1,2,3,4,5,6,7,8,9,10,11,17,18],[0,1,2,3,4,5,6,7,8,9,10,11,17,18,19],Eb 21,Eb 22,Eb 23])],head:=hdL [(2,[0,1,2,7])],tail:=tlL [(2,[(1,[0]),(0,[6])])] }| 38=>{ head:=hdL [(5,[0,2,4,5]),(9,[0,2,4,5,6])],tail:=tlL [(5,[(1,[0,2,4,5]),(0,[2,3])]),(9,[(3,[0,2,4,5,6]),(0,[2,3])])] }| 40=>{ head:=hdL [(2,[0,1,7,8])],tail:=tlL [(2,[(1,[]),(0,[4])])] }| 41=>{ take:=tkL [(1,1),(7,0),(7,7),(9,0),(9,1)],head:=hdL [(4,[0,1,5,6,7])],tail:=tlL [(4,[(1,[5]),(0,[4])])] }| 42=>{ take:=tkL [(6,2),(12,7)] }| 45=>{ head:=hdL [(5,[2,4,6]),(8,[2,4,6])],tail:=tlL [(5,[(1,[2,4,6]),(0,[2,3])]),(8,[(3,[2,4,6]),(0,[2,3])])] }| 46=>{ draw:=drL [(3,9,[[],[0],[],[2],Eb 4,[],[5],[],[0,1,2,3,4,7],Eb 9,Eb 10,Eb 11])] }| 47=>{ head:=hdL [(3,[1,2,6,17,18,19]),(6,[1,2,6,8,17,18,19,24,25,26])],tail:=tlL [(3,[(1,[]),(0,[4,5])]),(6,[(1,[]),(2,[1,2,6,17,18,19]),(3,[1,2,6,17,18,19]),(0,[4,5])])] }| 49=>{ take:=tkL [(1,1),(6,0)] }| 50=>{ head:=hdL [(5,[0,4,5])],tail:=tlL [(5,[(1,[0,4]),(0,[2,3])])] }| 56=>{ head:=hdL [(5,[0,3,4])],tail:=tlL [(5,[(1,[3,4]),(0,[2])])] }|_=>{}
theorem Ap {α:Type}{p:α→Prop}:∀x∈([]:List α),p x:=fun x h=>by cases h
theorem zS {α:Type}{p:α→Prop}{a:α}{l:List α}(h:p a)(t:∀x∈l,p x):∀x∈a::l,p x:=fun x hx=>by
 rcases ER.1 hx with rfl|hx
 ·exact h
 ·exact t x hx
theorem AY:∀p∈tab.ts,gp Try.prog p.1=some p.2:=Gf.1 (by kernel_rfl)
theorem Au:∀p∈tab.eqs,wE Try.prog p.1=some p.2:=Gf.1 (by kernel_rfl)
theorem AK:∀p∈tab.pls,il Try.prog p.1=some p.2:=Gf.1 (by kernel_rfl)
theorem As:∀p∈tab.ars,yW Try.prog p.1=some p.2:=Gf.1 (by kernel_rfl)
theorem zR:∀p∈tab.addr,sD Try.prog p.1 p.2:=zS xF (Ap)
theorem AP:aK Try.prog tab:=⟨AY,Au,AK,by kernel_rfl,As,zR⟩
noncomputable def fns:FuncId→Option Func:=wX Try.prog A2
theorem Ay:dA Try.prog fns:=zp (by kernel_rfl)
def orc:Sem1→Sem1:=fun _ _ _=>none
theorem AJ:∀C,CallsOk Try.prog B0 C→CallsOk Try.prog B0 (orc C):=fun _ _ f _ rs h=>by cases h
noncomputable def E:Env:=⟨tab,fns,hints,orc⟩
theorem uE {tab:Tab}{t:Nat}{a b:GM}(h:a.size+b.size≤kM):ex tab .add t (.string a) (.string b)=some (.string (a++b)):=by show(if a.size+b.size≤kM then some (Value.string (a++b))else none)=_;rw[Ej h]
theorem A6 {f:FuncId}{xs:List (Sl Unit Unit)}{x:Value}(h:Does E f xs [(false,[.v x])]){w:World}{ad:List DSl}{a:List Value}(b:ad.map Sl.er=xs)(c:ArgsIn w ad a):
  Calls Try.prog f a.toArray w fun e w'=>e = .returned x∧RowKit.Below w.heap.size w w':=Does.plain AP Ay AJ h (B0.ok _ _) b c
end
end Go.Proofs.Ytlhgcolciklecaa.Am
